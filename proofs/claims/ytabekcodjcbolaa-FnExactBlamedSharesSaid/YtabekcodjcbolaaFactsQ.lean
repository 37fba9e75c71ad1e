/-
  Which types compare cell by cell; computed by the kernel; by a program of ours.
-/
import Derived.Test.YtabekcodjcbolaaFacts
import Derived.Test.YtabekcodjcbolaaEqF
namespace Go.Proofs.Ytabekcodjcbolaa
theorem tQ_23 : eqB Try.prog 23 (List.replicate 6 .u8) = true := by kernel_rfl
theorem tQ_24 : eqB Try.prog 24 ([.i8, .i8] ++ List.replicate 12 .u8) = true := by kernel_rfl
theorem tQ_25 : eqB Try.prog 25 ([.i8, .i8] ++ List.replicate 12 .u8) = true := by kernel_rfl
theorem tQ_32 : eqB Try.prog 32 ([.i8, .i8] ++ List.replicate 12 .u8) = true := by kernel_rfl
theorem tQ_47 : eqB Try.prog 47 (List.replicate 64 .u8) = true := by kernel_rfl
theorem tQ_48 : eqB Try.prog 48 ([.i8] ++ List.replicate 64 .u8) = true := by kernel_rfl
theorem tQ_49 : eqB Try.prog 49 ([.i8] ++ List.replicate 64 .u8) = true := by kernel_rfl
theorem tQ_64 : eqB Try.prog 64 ([.i8] ++ List.replicate 64 .u8) = true := by kernel_rfl
end Go.Proofs.Ytabekcodjcbolaa
