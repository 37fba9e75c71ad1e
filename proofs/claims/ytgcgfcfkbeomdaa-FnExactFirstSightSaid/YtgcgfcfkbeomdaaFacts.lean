/-
  Facts of the types and functions of this translation, each computed by the kernel; by a program of ours.
-/
import Derived.Test.YtgcgfcfkbeomdaaProg
import Derived.Test.YtgcgfcfkbeomdaaSl
namespace Go.Proofs.Ytgcgfcfkbeomdaa
set_option linter.unusedVariables false
theorem hmix : Try.prog.follows .mixedOrders = true := by kernel_rfl
theorem tA_1 : tyA Try.prog 1 = some (false, 1) := by kernel_rfl
theorem tA_2 : tyA Try.prog 2 = some (false, 1) := by kernel_rfl
theorem tI_2 : tyI Try.prog 2 = some .i64 := by kernel_rfl
theorem tZ_2 : tyZ Try.prog 2 = some (.int .i64 0) := by kernel_rfl
theorem tA_3 : tyA Try.prog 3 = some (false, 1) := by kernel_rfl
theorem tI_3 : tyI Try.prog 3 = some .i64 := by kernel_rfl
theorem tZ_3 : tyZ Try.prog 3 = some (.int .i64 0) := by kernel_rfl
theorem tA_4 : tyA Try.prog 4 = some (false, 1) := by kernel_rfl
theorem tZ_4 : tyZ Try.prog 4 = some (.bool false) := by kernel_rfl
theorem tA_5 : tyA Try.prog 5 = some (false, 1) := by kernel_rfl
theorem tI_5 : tyI Try.prog 5 = some .u8 := by kernel_rfl
theorem tZ_5 : tyZ Try.prog 5 = some (.int .u8 0) := by kernel_rfl
theorem tA_9 : tyA Try.prog 9 = some (false, 1) := by kernel_rfl
theorem tZ_9 : tyZ Try.prog 9 = some (.string ⟨#[]⟩) := by kernel_rfl
theorem tA_12 : tyA Try.prog 12 = some (false, 1) := by kernel_rfl
theorem tI_12 : tyI Try.prog 12 = some .u64 := by kernel_rfl
theorem tZ_12 : tyZ Try.prog 12 = some (.int .u64 0) := by kernel_rfl
theorem tA_21 : tyA Try.prog 21 = some (false, 1) := by kernel_rfl
theorem tI_21 : tyI Try.prog 21 = some .i32 := by kernel_rfl
theorem tZ_21 : tyZ Try.prog 21 = some (.int .i32 0) := by kernel_rfl
theorem tA_22 : tyA Try.prog 22 = some (false, 1) := by kernel_rfl
theorem tS_22 : tyS Try.prog 22 = some (53, 2, 2) := by kernel_rfl
theorem tZ_22 : tyZ Try.prog 22 = some (.slice none 0 0) := by kernel_rfl
theorem tA_23 : tyA Try.prog 23 = some (false, 1) := by kernel_rfl
theorem tA_24 : tyA Try.prog 24 = some (false, 1) := by kernel_rfl
theorem tA_25 : tyA Try.prog 25 = some (false, 1) := by kernel_rfl
theorem tS_25 : tyS Try.prog 25 = some (51, 2, 2) := by kernel_rfl
theorem tZ_25 : tyZ Try.prog 25 = some (.slice none 0 0) := by kernel_rfl
theorem tA_26 : tyA Try.prog 26 = some (false, 1) := by kernel_rfl
theorem tA_27 : tyA Try.prog 27 = some (false, 1) := by kernel_rfl
theorem tA_28 : tyA Try.prog 28 = some (false, 1) := by kernel_rfl
theorem tI_28 : tyI Try.prog 28 = some .i8 := by kernel_rfl
theorem tZ_28 : tyZ Try.prog 28 = some (.int .i8 0) := by kernel_rfl
theorem tA_29 : tyA Try.prog 29 = some (true, 6) := by kernel_rfl
theorem tE_29 : tyE Try.prog 29 = some (6, false, 1) := by kernel_rfl
theorem tZ_29 : tyZ Try.prog 29 = some (.agg (arrU .u8 6 (fun _ => 0)).toArray) := by kernel_rfl
theorem tB_29 : tyB Try.prog 29 = some ([(0, 1), (1, 1), (2, 1), (3, 1), (4, 1), (5, 1)], arrU .u8 6 (fun _ => 0)) := by kernel_rfl
theorem tA_30 : tyA Try.prog 30 = some (true, 14) := by kernel_rfl
theorem tF_30_0 : tyF Try.prog 30 0 = some (0, false, 1) := by kernel_rfl
theorem tF_30_1 : tyF Try.prog 30 1 = some (1, false, 1) := by kernel_rfl
theorem tF_30_2 : tyF Try.prog 30 2 = some (2, true, 6) := by kernel_rfl
theorem tF_30_3 : tyF Try.prog 30 3 = some (8, true, 6) := by kernel_rfl
theorem tZ_30 : tyZ Try.prog 30 = some (.agg ([.int .i8 0, .int .i8 0, .int .u8 0, .int .u8 0, .int .u8 0, .int .u8 0, .int .u8 0, .int .u8 0, .int .u8 0, .int .u8 0, .int .u8 0, .int .u8 0, .int .u8 0, .int .u8 0]).toArray) := by kernel_rfl
theorem tB_30 : tyB Try.prog 30 = some ([(0, 1), (1, 1), (2, 6), (8, 6)], [.int .i8 0, .int .i8 0, .int .u8 0, .int .u8 0, .int .u8 0, .int .u8 0, .int .u8 0, .int .u8 0, .int .u8 0, .int .u8 0, .int .u8 0, .int .u8 0, .int .u8 0, .int .u8 0]) := by kernel_rfl
theorem tA_31 : tyA Try.prog 31 = some (true, 14) := by kernel_rfl
theorem tF_31_0 : tyF Try.prog 31 0 = some (0, false, 1) := by kernel_rfl
theorem tF_31_1 : tyF Try.prog 31 1 = some (1, false, 1) := by kernel_rfl
theorem tF_31_2 : tyF Try.prog 31 2 = some (2, true, 6) := by kernel_rfl
theorem tF_31_3 : tyF Try.prog 31 3 = some (8, true, 6) := by kernel_rfl
theorem tZ_31 : tyZ Try.prog 31 = some (.agg (schV 0 0 (fun _ => 0) (fun _ => 0)).toArray) := by kernel_rfl
theorem tB_31 : tyB Try.prog 31 = some ([(0, 1), (1, 1), (2, 6), (8, 6)], schV 0 0 (fun _ => 0) (fun _ => 0)) := by kernel_rfl
theorem tA_32 : tyA Try.prog 32 = some (false, 1) := by kernel_rfl
theorem tA_33 : tyA Try.prog 33 = some (true, 14) := by kernel_rfl
theorem tF_33_0 : tyF Try.prog 33 0 = some (0, false, 1) := by kernel_rfl
theorem tF_33_1 : tyF Try.prog 33 1 = some (1, false, 1) := by kernel_rfl
theorem tF_33_2 : tyF Try.prog 33 2 = some (2, true, 6) := by kernel_rfl
theorem tF_33_3 : tyF Try.prog 33 3 = some (8, true, 6) := by kernel_rfl
theorem tZ_33 : tyZ Try.prog 33 = some (.agg (schV 0 0 (fun _ => 0) (fun _ => 0)).toArray) := by kernel_rfl
theorem tB_33 : tyB Try.prog 33 = some ([(0, 1), (1, 1), (2, 6), (8, 6)], schV 0 0 (fun _ => 0) (fun _ => 0)) := by kernel_rfl
theorem tA_34 : tyA Try.prog 34 = some (false, 1) := by kernel_rfl
theorem tA_35 : tyA Try.prog 35 = some (false, 1) := by kernel_rfl
theorem tA_37 : tyA Try.prog 37 = some (false, 1) := by kernel_rfl
theorem tA_38 : tyA Try.prog 38 = some (false, 1) := by kernel_rfl
theorem tA_40 : tyA Try.prog 40 = some (false, 1) := by kernel_rfl
theorem tA_41 : tyA Try.prog 41 = some (false, 1) := by kernel_rfl
theorem tS_41 : tyS Try.prog 41 = some (2, 1, 8) := by kernel_rfl
theorem tZ_41 : tyZ Try.prog 41 = some (.slice none 0 0) := by kernel_rfl
theorem tA_43 : tyA Try.prog 43 = some (false, 1) := by kernel_rfl
theorem tA_44 : tyA Try.prog 44 = some (false, 1) := by kernel_rfl
theorem tA_45 : tyA Try.prog 45 = some (false, 1) := by kernel_rfl
theorem tA_46 : tyA Try.prog 46 = some (false, 1) := by kernel_rfl
theorem tA_47 : tyA Try.prog 47 = some (false, 1) := by kernel_rfl
theorem tA_49 : tyA Try.prog 49 = some (false, 1) := by kernel_rfl
theorem tA_50 : tyA Try.prog 50 = some (true, 2) := by kernel_rfl
theorem tF_50_0 : tyF Try.prog 50 0 = some (0, false, 1) := by kernel_rfl
theorem tF_50_1 : tyF Try.prog 50 1 = some (1, false, 1) := by kernel_rfl
theorem tZ_50 : tyZ Try.prog 50 = some (.agg ([.int .i8 0, .int .i8 0]).toArray) := by kernel_rfl
theorem tB_50 : tyB Try.prog 50 = some ([(0, 1), (1, 1)], [.int .i8 0, .int .i8 0]) := by kernel_rfl
theorem tA_51 : tyA Try.prog 51 = some (true, 2) := by kernel_rfl
theorem tF_51_0 : tyF Try.prog 51 0 = some (0, false, 1) := by kernel_rfl
theorem tF_51_1 : tyF Try.prog 51 1 = some (1, false, 1) := by kernel_rfl
theorem tZ_51 : tyZ Try.prog 51 = some (.agg ([.int .i8 0, .int .i8 0]).toArray) := by kernel_rfl
theorem tB_51 : tyB Try.prog 51 = some ([(0, 1), (1, 1)], [.int .i8 0, .int .i8 0]) := by kernel_rfl
theorem tA_52 : tyA Try.prog 52 = some (false, 1) := by kernel_rfl
theorem tA_53 : tyA Try.prog 53 = some (true, 2) := by kernel_rfl
theorem tF_53_0 : tyF Try.prog 53 0 = some (0, false, 1) := by kernel_rfl
theorem tF_53_1 : tyF Try.prog 53 1 = some (1, false, 1) := by kernel_rfl
theorem tZ_53 : tyZ Try.prog 53 = some (.agg ([.int .i8 0, .int .i8 0]).toArray) := by kernel_rfl
theorem tB_53 : tyB Try.prog 53 = some ([(0, 1), (1, 1)], [.int .i8 0, .int .i8 0]) := by kernel_rfl
theorem tA_54 : tyA Try.prog 54 = some (false, 1) := by kernel_rfl
theorem tA_55 : tyA Try.prog 55 = some (false, 1) := by kernel_rfl
theorem tA_56 : tyA Try.prog 56 = some (false, 1) := by kernel_rfl
theorem tA_57 : tyA Try.prog 57 = some (false, 1) := by kernel_rfl
theorem tA_58 : tyA Try.prog 58 = some (false, 1) := by kernel_rfl
theorem tA_59 : tyA Try.prog 59 = some (false, 1) := by kernel_rfl
theorem tA_60 : tyA Try.prog 60 = some (false, 1) := by kernel_rfl
theorem tA_61 : tyA Try.prog 61 = some (false, 1) := by kernel_rfl
theorem tA_62 : tyA Try.prog 62 = some (false, 1) := by kernel_rfl
theorem tA_63 : tyA Try.prog 63 = some (false, 1) := by kernel_rfl
theorem tA_64 : tyA Try.prog 64 = some (false, 1) := by kernel_rfl
theorem tA_65 : tyA Try.prog 65 = some (false, 1) := by kernel_rfl
theorem tA_66 : tyA Try.prog 66 = some (false, 1) := by kernel_rfl
theorem tA_67 : tyA Try.prog 67 = some (false, 1) := by kernel_rfl
theorem tA_68 : tyA Try.prog 68 = some (false, 1) := by kernel_rfl
theorem tA_69 : tyA Try.prog 69 = some (false, 1) := by kernel_rfl
theorem tA_70 : tyA Try.prog 70 = some (false, 1) := by kernel_rfl
theorem tA_71 : tyA Try.prog 71 = some (false, 1) := by kernel_rfl
theorem tA_72 : tyA Try.prog 72 = some (true, 2) := by kernel_rfl
theorem tF_72_0 : tyF Try.prog 72 0 = some (0, false, 1) := by kernel_rfl
theorem tF_72_1 : tyF Try.prog 72 1 = some (1, false, 1) := by kernel_rfl
theorem tZ_72 : tyZ Try.prog 72 = some (.agg ([.bool false, .int .i64 0]).toArray) := by kernel_rfl
theorem tB_72 : tyB Try.prog 72 = some ([(0, 1), (1, 1)], [.bool false, .int .i64 0]) := by kernel_rfl
theorem tA_73 : tyA Try.prog 73 = some (true, 2) := by kernel_rfl
theorem tF_73_0 : tyF Try.prog 73 0 = some (0, false, 1) := by kernel_rfl
theorem tF_73_1 : tyF Try.prog 73 1 = some (1, false, 1) := by kernel_rfl
theorem tZ_73 : tyZ Try.prog 73 = some (.agg ([.bool false, .int .i64 0]).toArray) := by kernel_rfl
theorem tB_73 : tyB Try.prog 73 = some ([(0, 1), (1, 1)], [.bool false, .int .i64 0]) := by kernel_rfl
theorem tA_74 : tyA Try.prog 74 = some (false, 1) := by kernel_rfl
theorem tI_74 : tyI Try.prog 74 = some .u64 := by kernel_rfl
theorem tZ_74 : tyZ Try.prog 74 = some (.int .u64 0) := by kernel_rfl
theorem tA_75 : tyA Try.prog 75 = some (false, 1) := by kernel_rfl
theorem tA_76 : tyA Try.prog 76 = some (false, 1) := by kernel_rfl
theorem tA_77 : tyA Try.prog 77 = some (false, 1) := by kernel_rfl
theorem tA_78 : tyA Try.prog 78 = some (false, 1) := by kernel_rfl
theorem tS_78 : tyS Try.prog 78 = some (73, 2, 16) := by kernel_rfl
theorem tZ_78 : tyZ Try.prog 78 = some (.slice none 0 0) := by kernel_rfl
theorem tA_79 : tyA Try.prog 79 = some (false, 1) := by kernel_rfl
theorem tA_80 : tyA Try.prog 80 = some (false, 1) := by kernel_rfl
theorem tI_80 : tyI Try.prog 80 = some .u64 := by kernel_rfl
theorem tZ_80 : tyZ Try.prog 80 = some (.int .u64 0) := by kernel_rfl
theorem tA_81 : tyA Try.prog 81 = some (false, 1) := by kernel_rfl
theorem tA_82 : tyA Try.prog 82 = some (false, 1) := by kernel_rfl
theorem tA_83 : tyA Try.prog 83 = some (false, 1) := by kernel_rfl
theorem tA_84 : tyA Try.prog 84 = some (false, 1) := by kernel_rfl
theorem tA_85 : tyA Try.prog 85 = some (false, 1) := by kernel_rfl
theorem tA_86 : tyA Try.prog 86 = some (false, 1) := by kernel_rfl
theorem tA_92 : tyA Try.prog 92 = some (false, 1) := by kernel_rfl
theorem tA_93 : tyA Try.prog 93 = some (false, 1) := by kernel_rfl
theorem tI_93 : tyI Try.prog 93 = some .u32 := by kernel_rfl
theorem tZ_93 : tyZ Try.prog 93 = some (.int .u32 0) := by kernel_rfl
theorem tA_96 : tyA Try.prog 96 = some (false, 1) := by kernel_rfl
theorem tA_97 : tyA Try.prog 97 = some (false, 1) := by kernel_rfl
theorem tA_102 : tyA Try.prog 102 = some (false, 1) := by kernel_rfl
theorem en_3 : entB Try.prog 3 = true := by kernel_rfl
theorem en_4 : entB Try.prog 4 = true := by kernel_rfl
theorem en_5 : entB Try.prog 5 = true := by kernel_rfl
theorem en_6 : entB Try.prog 6 = true := by kernel_rfl
theorem en_7 : entB Try.prog 7 = true := by kernel_rfl
theorem en_8 : entB Try.prog 8 = true := by kernel_rfl
theorem en_9 : entB Try.prog 9 = true := by kernel_rfl
theorem en_10 : entB Try.prog 10 = true := by kernel_rfl
theorem en_11 : entB Try.prog 11 = true := by kernel_rfl
theorem en_12 : entB Try.prog 12 = true := by kernel_rfl
theorem en_13 : entB Try.prog 13 = true := by kernel_rfl
theorem en_14 : entB Try.prog 14 = true := by kernel_rfl
theorem en_15 : entB Try.prog 15 = true := by kernel_rfl
theorem en_16 : entB Try.prog 16 = true := by kernel_rfl
theorem en_17 : entB Try.prog 17 = true := by kernel_rfl
theorem en_18 : entB Try.prog 18 = true := by kernel_rfl
theorem en_19 : entB Try.prog 19 = true := by kernel_rfl
theorem en_20 : entB Try.prog 20 = true := by kernel_rfl
theorem en_21 : entB Try.prog 21 = true := by kernel_rfl
theorem en_22 : entB Try.prog 22 = true := by kernel_rfl
theorem en_23 : entB Try.prog 23 = true := by kernel_rfl
theorem en_24 : entB Try.prog 24 = true := by kernel_rfl
theorem en_25 : entB Try.prog 25 = true := by kernel_rfl
theorem en_26 : entB Try.prog 26 = true := by kernel_rfl
theorem en_27 : entB Try.prog 27 = true := by kernel_rfl
theorem en_28 : entB Try.prog 28 = true := by kernel_rfl
theorem en_29 : entB Try.prog 29 = true := by kernel_rfl
theorem en_30 : entB Try.prog 30 = true := by kernel_rfl
theorem en_31 : entB Try.prog 31 = true := by kernel_rfl
theorem en_32 : entB Try.prog 32 = true := by kernel_rfl
theorem en_33 : entB Try.prog 33 = true := by kernel_rfl
theorem en_34 : entB Try.prog 34 = true := by kernel_rfl
theorem en_35 : entB Try.prog 35 = true := by kernel_rfl
theorem en_36 : entB Try.prog 36 = true := by kernel_rfl
theorem en_37 : entB Try.prog 37 = true := by kernel_rfl
theorem en_38 : entB Try.prog 38 = true := by kernel_rfl
theorem en_39 : entB Try.prog 39 = true := by kernel_rfl
theorem en_40 : entB Try.prog 40 = true := by kernel_rfl
theorem en_41 : entB Try.prog 41 = true := by kernel_rfl
theorem en_42 : entB Try.prog 42 = true := by kernel_rfl
theorem en_43 : entB Try.prog 43 = true := by kernel_rfl
theorem en_44 : entB Try.prog 44 = true := by kernel_rfl
theorem en_45 : entB Try.prog 45 = true := by kernel_rfl
theorem en_46 : entB Try.prog 46 = true := by kernel_rfl
theorem en_47 : entB Try.prog 47 = true := by kernel_rfl
theorem en_48 : entB Try.prog 48 = true := by kernel_rfl
theorem en_49 : entB Try.prog 49 = true := by kernel_rfl
theorem en_50 : entB Try.prog 50 = true := by kernel_rfl
theorem en_51 : entB Try.prog 51 = true := by kernel_rfl
theorem en_52 : entB Try.prog 52 = true := by kernel_rfl
theorem en_53 : entB Try.prog 53 = true := by kernel_rfl
theorem en_54 : entB Try.prog 54 = true := by kernel_rfl
theorem en_55 : entB Try.prog 55 = true := by kernel_rfl
theorem en_56 : entB Try.prog 56 = true := by kernel_rfl
theorem en_57 : entB Try.prog 57 = true := by kernel_rfl
theorem en_58 : entB Try.prog 58 = true := by kernel_rfl
theorem en_59 : entB Try.prog 59 = true := by kernel_rfl
theorem en_60 : entB Try.prog 60 = true := by kernel_rfl
theorem en_61 : entB Try.prog 61 = true := by kernel_rfl
theorem en_62 : entB Try.prog 62 = true := by kernel_rfl
end Go.Proofs.Ytgcgfcfkbeomdaa
