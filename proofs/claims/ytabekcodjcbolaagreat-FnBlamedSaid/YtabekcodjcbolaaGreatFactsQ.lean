/-
  Which types compare cell by cell; computed by the kernel; by a program of ours.
-/
import Derived.Test.YtabekcodjcbolaaGreatFacts
import Derived.Test.YtabekcodjcbolaaGreatEqF
namespace Go.Proofs.YtabekcodjcbolaaGreat
theorem tQ_25 : eqB Tryz.prog 25 (List.replicate 6 .u8) = true := by kernel_rfl
theorem tQ_26 : eqB Tryz.prog 26 ([.i8, .i8] ++ List.replicate 12 .u8) = true := by kernel_rfl
theorem tQ_27 : eqB Tryz.prog 27 ([.i8, .i8] ++ List.replicate 12 .u8) = true := by kernel_rfl
theorem tQ_48 : eqB Tryz.prog 48 (List.replicate 64 .u8) = true := by kernel_rfl
theorem tQ_49 : eqB Tryz.prog 49 ([.i8] ++ List.replicate 64 .u8) = true := by kernel_rfl
theorem tQ_50 : eqB Tryz.prog 50 ([.i8] ++ List.replicate 64 .u8) = true := by kernel_rfl
end Go.Proofs.YtabekcodjcbolaaGreat
