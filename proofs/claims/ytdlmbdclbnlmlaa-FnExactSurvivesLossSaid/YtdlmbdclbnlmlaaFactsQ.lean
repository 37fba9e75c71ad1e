/-
  Which types compare cell by cell; computed by the kernel; by a program of ours.
-/
import Derived.Test.YtdlmbdclbnlmlaaFacts
import Derived.Test.YtdlmbdclbnlmlaaEqF
namespace Go.Proofs.Ytdlmbdclbnlmlaa
theorem tQ_23 : eqB Try.prog 23 (List.replicate 6 .u8) = true := by kernel_rfl
theorem tQ_24 : eqB Try.prog 24 ([.i8, .i8] ++ List.replicate 12 .u8) = true := by kernel_rfl
theorem tQ_25 : eqB Try.prog 25 ([.i8, .i8] ++ List.replicate 12 .u8) = true := by kernel_rfl
theorem tQ_27 : eqB Try.prog 27 ([.i8] ++ [.u64]) = true := by kernel_rfl
theorem tQ_28 : eqB Try.prog 28 ([.i8] ++ [.u64]) = true := by kernel_rfl
theorem tQ_31 : eqB Try.prog 31 ([.i8, .i8] ++ List.replicate 12 .u8) = true := by kernel_rfl
theorem tQ_33 : eqB Try.prog 33 ([.i8] ++ [.u64]) = true := by kernel_rfl
theorem tQ_37 : eqB Try.prog 37 ([.i16, .i16]) = true := by kernel_rfl
theorem tQ_38 : eqB Try.prog 38 ([.i16, .i16]) = true := by kernel_rfl
theorem tQ_99 : eqB Try.prog 99 (List.replicate 64 .i8) = true := by kernel_rfl
end Go.Proofs.Ytdlmbdclbnlmlaa
