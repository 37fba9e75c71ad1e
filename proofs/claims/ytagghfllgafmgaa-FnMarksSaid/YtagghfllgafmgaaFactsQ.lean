/-
  Which types compare cell by cell; computed by the kernel; by a program of ours.
-/
import Derived.Test.YtagghfllgafmgaaFacts
import Derived.Test.YtagghfllgafmgaaEqF
namespace Go.Proofs.Ytagghfllgafmgaa
theorem tQ_23 : eqB Try.prog 23 (List.replicate 64 .u8) = true := by kernel_rfl
theorem tQ_24 : eqB Try.prog 24 ([.i8] ++ List.replicate 64 .u8) = true := by kernel_rfl
theorem tQ_25 : eqB Try.prog 25 ([.i8] ++ List.replicate 64 .u8) = true := by kernel_rfl
theorem tQ_29 : eqB Try.prog 29 ([.i8] ++ List.replicate 64 .u8) = true := by kernel_rfl
theorem tQ_56 : eqB Try.prog 56 (List.replicate 6 .u8) = true := by kernel_rfl
theorem tQ_57 : eqB Try.prog 57 ([.i8, .i8] ++ List.replicate 12 .u8) = true := by kernel_rfl
theorem tQ_58 : eqB Try.prog 58 ([.i8, .i8] ++ List.replicate 12 .u8) = true := by kernel_rfl
theorem tQ_62 : eqB Try.prog 62 ([.i8, .i8] ++ List.replicate 12 .u8) = true := by kernel_rfl
end Go.Proofs.Ytagghfllgafmgaa
