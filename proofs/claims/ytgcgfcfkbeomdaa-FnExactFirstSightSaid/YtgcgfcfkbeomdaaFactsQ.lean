/-
  Which types compare cell by cell; computed by the kernel; by a program of ours.
-/
import Derived.Test.YtgcgfcfkbeomdaaFacts
import Derived.Test.YtgcgfcfkbeomdaaEqF
namespace Go.Proofs.Ytgcgfcfkbeomdaa
theorem tQ_29 : eqB Try.prog 29 (List.replicate 6 .u8) = true := by kernel_rfl
theorem tQ_30 : eqB Try.prog 30 ([.i8, .i8] ++ List.replicate 12 .u8) = true := by kernel_rfl
theorem tQ_31 : eqB Try.prog 31 ([.i8, .i8] ++ List.replicate 12 .u8) = true := by kernel_rfl
theorem tQ_33 : eqB Try.prog 33 ([.i8, .i8] ++ List.replicate 12 .u8) = true := by kernel_rfl
theorem tQ_50 : eqB Try.prog 50 ([.i8, .i8]) = true := by kernel_rfl
theorem tQ_51 : eqB Try.prog 51 ([.i8, .i8]) = true := by kernel_rfl
theorem tQ_53 : eqB Try.prog 53 ([.i8, .i8]) = true := by kernel_rfl
end Go.Proofs.Ytgcgfcfkbeomdaa
