/-
  Which types compare cell by cell; computed by the kernel; by a program of ours.
-/
import Derived.Test.YtajkjhjnbfcpfaaFacts
import Derived.Test.YtajkjhjnbfcpfaaEqF
namespace Go.Proofs.Ytajkjhjnbfcpfaa
theorem tQ_23 : eqB Try.prog 23 (List.replicate 64 .u8) = true := by kernel_rfl
theorem tQ_24 : eqB Try.prog 24 ([.i8] ++ List.replicate 64 .u8) = true := by kernel_rfl
theorem tQ_25 : eqB Try.prog 25 ([.i8] ++ List.replicate 64 .u8) = true := by kernel_rfl
theorem tQ_30 : eqB Try.prog 30 ([.i8] ++ List.replicate 64 .u8) = true := by kernel_rfl
theorem tQ_33 : eqB Try.prog 33 (List.replicate 64 .u8) = true := by kernel_rfl
theorem tQ_51 : eqB Try.prog 51 ([.u64, .u64, .u64]) = true := by kernel_rfl
theorem tQ_52 : eqB Try.prog 52 ([.i8] ++ List.replicate 64 .u8 ++ [.i8] ++ List.replicate 64 .u8 ++ [.i8] ++ List.replicate 64 .u8 ++ [.i8] ++ List.replicate 64 .u8 ++ [.i8] ++ List.replicate 64 .u8 ++ [.i8] ++ List.replicate 64 .u8) = true := by kernel_rfl
theorem tQ_55 : eqB Try.prog 55 ([.u64, .u64, .u64]) = true := by kernel_rfl
theorem tQ_59 : eqB Try.prog 59 ([.i8] ++ List.replicate 64 .u8 ++ [.i8] ++ List.replicate 64 .u8 ++ [.i8] ++ List.replicate 64 .u8 ++ [.i8] ++ List.replicate 64 .u8 ++ [.i8] ++ List.replicate 64 .u8 ++ [.i8] ++ List.replicate 64 .u8) = true := by kernel_rfl
theorem tQ_71 : eqB Try.prog 71 (List.replicate 9 .i64) = true := by kernel_rfl
theorem tQ_75 : eqB Try.prog 75 (List.replicate 64 .i8) = true := by kernel_rfl
theorem tQ_84 : eqB Try.prog 84 (List.replicate 4 .u64) = true := by kernel_rfl
theorem tQ_151 : eqB Try.prog 151 (List.replicate 8 .u8) = true := by kernel_rfl
theorem tQ_152 : eqB Try.prog 152 ([.u8, .u8]) = true := by kernel_rfl
theorem tQ_153 : eqB Try.prog 153 (List.replicate 16 .u8) = true := by kernel_rfl
end Go.Proofs.Ytajkjhjnbfcpfaa
