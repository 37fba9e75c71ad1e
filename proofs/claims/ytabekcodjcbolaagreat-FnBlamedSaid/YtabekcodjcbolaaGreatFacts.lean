/-
  Facts of the types and functions of this translation, each computed by the kernel; by a program of ours.
-/
import Derived.Test.YtabekcodjcbolaaGreatProg
import Derived.Test.YtabekcodjcbolaaGreatSl
namespace Go.Proofs.YtabekcodjcbolaaGreat
set_option linter.unusedVariables false
theorem hmix : Tryz.prog.follows .mixedOrders = true := by kernel_rfl
theorem tA_1 : tyA Tryz.prog 1 = some (false, 1) := by kernel_rfl
theorem tA_2 : tyA Tryz.prog 2 = some (false, 1) := by kernel_rfl
theorem tI_2 : tyI Tryz.prog 2 = some .i64 := by kernel_rfl
theorem tZ_2 : tyZ Tryz.prog 2 = some (.int .i64 0) := by kernel_rfl
theorem tA_3 : tyA Tryz.prog 3 = some (false, 1) := by kernel_rfl
theorem tI_3 : tyI Tryz.prog 3 = some .i64 := by kernel_rfl
theorem tZ_3 : tyZ Tryz.prog 3 = some (.int .i64 0) := by kernel_rfl
theorem tA_4 : tyA Tryz.prog 4 = some (false, 1) := by kernel_rfl
theorem tZ_4 : tyZ Tryz.prog 4 = some (.bool false) := by kernel_rfl
theorem tA_5 : tyA Tryz.prog 5 = some (false, 1) := by kernel_rfl
theorem tI_5 : tyI Tryz.prog 5 = some .u8 := by kernel_rfl
theorem tZ_5 : tyZ Tryz.prog 5 = some (.int .u8 0) := by kernel_rfl
theorem tA_9 : tyA Tryz.prog 9 = some (false, 1) := by kernel_rfl
theorem tZ_9 : tyZ Tryz.prog 9 = some (.string ⟨#[]⟩) := by kernel_rfl
theorem tA_12 : tyA Tryz.prog 12 = some (false, 1) := by kernel_rfl
theorem tI_12 : tyI Tryz.prog 12 = some .u64 := by kernel_rfl
theorem tZ_12 : tyZ Tryz.prog 12 = some (.int .u64 0) := by kernel_rfl
theorem tA_21 : tyA Tryz.prog 21 = some (false, 1) := by kernel_rfl
theorem tI_21 : tyI Tryz.prog 21 = some .i32 := by kernel_rfl
theorem tZ_21 : tyZ Tryz.prog 21 = some (.int .i32 0) := by kernel_rfl
theorem tA_22 : tyA Tryz.prog 22 = some (false, 1) := by kernel_rfl
theorem tS_22 : tyS Tryz.prog 22 = some (5, 1, 1) := by kernel_rfl
theorem tZ_22 : tyZ Tryz.prog 22 = some (.slice none 0 0) := by kernel_rfl
theorem tA_23 : tyA Tryz.prog 23 = some (false, 1) := by kernel_rfl
theorem tA_24 : tyA Tryz.prog 24 = some (false, 1) := by kernel_rfl
theorem tI_24 : tyI Tryz.prog 24 = some .i8 := by kernel_rfl
theorem tZ_24 : tyZ Tryz.prog 24 = some (.int .i8 0) := by kernel_rfl
theorem tA_25 : tyA Tryz.prog 25 = some (true, 6) := by kernel_rfl
theorem tE_25 : tyE Tryz.prog 25 = some (6, false, 1) := by kernel_rfl
theorem tZ_25 : tyZ Tryz.prog 25 = some (.agg (arrU .u8 6 (fun _ => 0)).toArray) := by kernel_rfl
theorem tB_25 : tyB Tryz.prog 25 = some ([(0, 1), (1, 1), (2, 1), (3, 1), (4, 1), (5, 1)], arrU .u8 6 (fun _ => 0)) := by kernel_rfl
theorem tA_26 : tyA Tryz.prog 26 = some (true, 14) := by kernel_rfl
theorem tF_26_0 : tyF Tryz.prog 26 0 = some (0, false, 1) := by kernel_rfl
theorem tF_26_1 : tyF Tryz.prog 26 1 = some (1, false, 1) := by kernel_rfl
theorem tF_26_2 : tyF Tryz.prog 26 2 = some (2, true, 6) := by kernel_rfl
theorem tF_26_3 : tyF Tryz.prog 26 3 = some (8, true, 6) := by kernel_rfl
theorem tZ_26 : tyZ Tryz.prog 26 = some (.agg ([.int .i8 0, .int .i8 0, .int .u8 0, .int .u8 0, .int .u8 0, .int .u8 0, .int .u8 0, .int .u8 0, .int .u8 0, .int .u8 0, .int .u8 0, .int .u8 0, .int .u8 0, .int .u8 0]).toArray) := by kernel_rfl
theorem tB_26 : tyB Tryz.prog 26 = some ([(0, 1), (1, 1), (2, 6), (8, 6)], [.int .i8 0, .int .i8 0, .int .u8 0, .int .u8 0, .int .u8 0, .int .u8 0, .int .u8 0, .int .u8 0, .int .u8 0, .int .u8 0, .int .u8 0, .int .u8 0, .int .u8 0, .int .u8 0]) := by kernel_rfl
theorem tA_27 : tyA Tryz.prog 27 = some (true, 14) := by kernel_rfl
theorem tF_27_0 : tyF Tryz.prog 27 0 = some (0, false, 1) := by kernel_rfl
theorem tF_27_1 : tyF Tryz.prog 27 1 = some (1, false, 1) := by kernel_rfl
theorem tF_27_2 : tyF Tryz.prog 27 2 = some (2, true, 6) := by kernel_rfl
theorem tF_27_3 : tyF Tryz.prog 27 3 = some (8, true, 6) := by kernel_rfl
theorem tZ_27 : tyZ Tryz.prog 27 = some (.agg (schV 0 0 (fun _ => 0) (fun _ => 0)).toArray) := by kernel_rfl
theorem tB_27 : tyB Tryz.prog 27 = some ([(0, 1), (1, 1), (2, 6), (8, 6)], schV 0 0 (fun _ => 0) (fun _ => 0)) := by kernel_rfl
theorem tA_28 : tyA Tryz.prog 28 = some (false, 1) := by kernel_rfl
theorem tA_29 : tyA Tryz.prog 29 = some (false, 1) := by kernel_rfl
theorem tI_29 : tyI Tryz.prog 29 = some .u64 := by kernel_rfl
theorem tZ_29 : tyZ Tryz.prog 29 = some (.int .u64 0) := by kernel_rfl
theorem tA_30 : tyA Tryz.prog 30 = some (false, 1) := by kernel_rfl
theorem tI_30 : tyI Tryz.prog 30 = some .u64 := by kernel_rfl
theorem tZ_30 : tyZ Tryz.prog 30 = some (.int .u64 0) := by kernel_rfl
theorem tA_31 : tyA Tryz.prog 31 = some (false, 1) := by kernel_rfl
theorem tA_32 : tyA Tryz.prog 32 = some (false, 1) := by kernel_rfl
theorem tS_32 : tyS Tryz.prog 32 = some (50, 65, 65) := by kernel_rfl
theorem tZ_32 : tyZ Tryz.prog 32 = some (.slice none 0 0) := by kernel_rfl
theorem tA_33 : tyA Tryz.prog 33 = some (false, 1) := by kernel_rfl
theorem tI_33 : tyI Tryz.prog 33 = some .u32 := by kernel_rfl
theorem tZ_33 : tyZ Tryz.prog 33 = some (.int .u32 0) := by kernel_rfl
theorem tA_35 : tyA Tryz.prog 35 = some (false, 1) := by kernel_rfl
theorem tA_36 : tyA Tryz.prog 36 = some (false, 1) := by kernel_rfl
theorem tA_38 : tyA Tryz.prog 38 = some (false, 1) := by kernel_rfl
theorem tA_39 : tyA Tryz.prog 39 = some (false, 1) := by kernel_rfl
theorem tS_39 : tyS Tryz.prog 39 = some (2, 1, 8) := by kernel_rfl
theorem tZ_39 : tyZ Tryz.prog 39 = some (.slice none 0 0) := by kernel_rfl
theorem tA_41 : tyA Tryz.prog 41 = some (false, 1) := by kernel_rfl
theorem tA_42 : tyA Tryz.prog 42 = some (false, 1) := by kernel_rfl
theorem tA_43 : tyA Tryz.prog 43 = some (false, 1) := by kernel_rfl
theorem tA_45 : tyA Tryz.prog 45 = some (false, 1) := by kernel_rfl
theorem tA_46 : tyA Tryz.prog 46 = some (false, 1) := by kernel_rfl
theorem tA_47 : tyA Tryz.prog 47 = some (false, 1) := by kernel_rfl
theorem tA_48 : tyA Tryz.prog 48 = some (true, 64) := by kernel_rfl
theorem tE_48 : tyE Tryz.prog 48 = some (64, false, 1) := by kernel_rfl
theorem tZ_48 : tyZ Tryz.prog 48 = some (.agg (arrU .u8 64 (fun _ => 0)).toArray) := by kernel_rfl
theorem tB_48 : tyB Tryz.prog 48 = some ([(0, 1), (1, 1), (2, 1), (3, 1), (4, 1), (5, 1), (6, 1), (7, 1), (8, 1), (9, 1), (10, 1), (11, 1), (12, 1), (13, 1), (14, 1), (15, 1), (16, 1), (17, 1), (18, 1), (19, 1), (20, 1), (21, 1), (22, 1), (23, 1), (24, 1), (25, 1), (26, 1), (27, 1), (28, 1), (29, 1), (30, 1), (31, 1), (32, 1), (33, 1), (34, 1), (35, 1), (36, 1), (37, 1), (38, 1), (39, 1), (40, 1), (41, 1), (42, 1), (43, 1), (44, 1), (45, 1), (46, 1), (47, 1), (48, 1), (49, 1), (50, 1), (51, 1), (52, 1), (53, 1), (54, 1), (55, 1), (56, 1), (57, 1), (58, 1), (59, 1), (60, 1), (61, 1), (62, 1), (63, 1)], arrU .u8 64 (fun _ => 0)) := by kernel_rfl
theorem tA_49 : tyA Tryz.prog 49 = some (true, 65) := by kernel_rfl
theorem tF_49_0 : tyF Tryz.prog 49 0 = some (0, false, 1) := by kernel_rfl
theorem tF_49_1 : tyF Tryz.prog 49 1 = some (1, true, 64) := by kernel_rfl
theorem tZ_49 : tyZ Tryz.prog 49 = some (.agg ([.int .i8 0, .int .u8 0, .int .u8 0, .int .u8 0, .int .u8 0, .int .u8 0, .int .u8 0, .int .u8 0, .int .u8 0, .int .u8 0, .int .u8 0, .int .u8 0, .int .u8 0, .int .u8 0, .int .u8 0, .int .u8 0, .int .u8 0, .int .u8 0, .int .u8 0, .int .u8 0, .int .u8 0, .int .u8 0, .int .u8 0, .int .u8 0, .int .u8 0, .int .u8 0, .int .u8 0, .int .u8 0, .int .u8 0, .int .u8 0, .int .u8 0, .int .u8 0, .int .u8 0, .int .u8 0, .int .u8 0, .int .u8 0, .int .u8 0, .int .u8 0, .int .u8 0, .int .u8 0, .int .u8 0, .int .u8 0, .int .u8 0, .int .u8 0, .int .u8 0, .int .u8 0, .int .u8 0, .int .u8 0, .int .u8 0, .int .u8 0, .int .u8 0, .int .u8 0, .int .u8 0, .int .u8 0, .int .u8 0, .int .u8 0, .int .u8 0, .int .u8 0, .int .u8 0, .int .u8 0, .int .u8 0, .int .u8 0, .int .u8 0, .int .u8 0, .int .u8 0]).toArray) := by kernel_rfl
theorem tB_49 : tyB Tryz.prog 49 = some ([(0, 1), (1, 64)], [.int .i8 0, .int .u8 0, .int .u8 0, .int .u8 0, .int .u8 0, .int .u8 0, .int .u8 0, .int .u8 0, .int .u8 0, .int .u8 0, .int .u8 0, .int .u8 0, .int .u8 0, .int .u8 0, .int .u8 0, .int .u8 0, .int .u8 0, .int .u8 0, .int .u8 0, .int .u8 0, .int .u8 0, .int .u8 0, .int .u8 0, .int .u8 0, .int .u8 0, .int .u8 0, .int .u8 0, .int .u8 0, .int .u8 0, .int .u8 0, .int .u8 0, .int .u8 0, .int .u8 0, .int .u8 0, .int .u8 0, .int .u8 0, .int .u8 0, .int .u8 0, .int .u8 0, .int .u8 0, .int .u8 0, .int .u8 0, .int .u8 0, .int .u8 0, .int .u8 0, .int .u8 0, .int .u8 0, .int .u8 0, .int .u8 0, .int .u8 0, .int .u8 0, .int .u8 0, .int .u8 0, .int .u8 0, .int .u8 0, .int .u8 0, .int .u8 0, .int .u8 0, .int .u8 0, .int .u8 0, .int .u8 0, .int .u8 0, .int .u8 0, .int .u8 0, .int .u8 0]) := by kernel_rfl
theorem tA_50 : tyA Tryz.prog 50 = some (true, 65) := by kernel_rfl
theorem tF_50_0 : tyF Tryz.prog 50 0 = some (0, false, 1) := by kernel_rfl
theorem tF_50_1 : tyF Tryz.prog 50 1 = some (1, true, 64) := by kernel_rfl
theorem tZ_50 : tyZ Tryz.prog 50 = some (.agg (layV 0 (fun _ => 0)).toArray) := by kernel_rfl
theorem tB_50 : tyB Tryz.prog 50 = some ([(0, 1), (1, 64)], layV 0 (fun _ => 0)) := by kernel_rfl
theorem tA_51 : tyA Tryz.prog 51 = some (false, 1) := by kernel_rfl
theorem tI_51 : tyI Tryz.prog 51 = some .u64 := by kernel_rfl
theorem tZ_51 : tyZ Tryz.prog 51 = some (.int .u64 0) := by kernel_rfl
theorem tA_52 : tyA Tryz.prog 52 = some (false, 1) := by kernel_rfl
theorem tA_53 : tyA Tryz.prog 53 = some (false, 1) := by kernel_rfl
theorem tA_55 : tyA Tryz.prog 55 = some (false, 1) := by kernel_rfl
theorem tA_56 : tyA Tryz.prog 56 = some (false, 1) := by kernel_rfl
theorem tA_57 : tyA Tryz.prog 57 = some (false, 1) := by kernel_rfl
theorem tA_58 : tyA Tryz.prog 58 = some (false, 1) := by kernel_rfl
theorem tA_59 : tyA Tryz.prog 59 = some (false, 1) := by kernel_rfl
theorem tA_60 : tyA Tryz.prog 60 = some (false, 1) := by kernel_rfl
theorem tA_61 : tyA Tryz.prog 61 = some (false, 1) := by kernel_rfl
theorem tA_63 : tyA Tryz.prog 63 = some (false, 1) := by kernel_rfl
theorem tA_64 : tyA Tryz.prog 64 = some (false, 1) := by kernel_rfl
theorem tA_65 : tyA Tryz.prog 65 = some (false, 1) := by kernel_rfl
theorem tA_66 : tyA Tryz.prog 66 = some (false, 1) := by kernel_rfl
theorem tA_67 : tyA Tryz.prog 67 = some (false, 1) := by kernel_rfl
theorem tA_69 : tyA Tryz.prog 69 = some (false, 1) := by kernel_rfl
theorem tA_70 : tyA Tryz.prog 70 = some (false, 1) := by kernel_rfl
theorem tA_71 : tyA Tryz.prog 71 = some (false, 1) := by kernel_rfl
theorem tA_72 : tyA Tryz.prog 72 = some (false, 1) := by kernel_rfl
theorem tA_73 : tyA Tryz.prog 73 = some (false, 1) := by kernel_rfl
theorem tA_74 : tyA Tryz.prog 74 = some (false, 1) := by kernel_rfl
theorem tA_75 : tyA Tryz.prog 75 = some (false, 1) := by kernel_rfl
theorem tA_76 : tyA Tryz.prog 76 = some (false, 1) := by kernel_rfl
theorem tA_77 : tyA Tryz.prog 77 = some (false, 1) := by kernel_rfl
theorem tA_78 : tyA Tryz.prog 78 = some (true, 2) := by kernel_rfl
theorem tF_78_0 : tyF Tryz.prog 78 0 = some (0, false, 1) := by kernel_rfl
theorem tF_78_1 : tyF Tryz.prog 78 1 = some (1, false, 1) := by kernel_rfl
theorem tZ_78 : tyZ Tryz.prog 78 = some (.agg ([.bool false, .int .i64 0]).toArray) := by kernel_rfl
theorem tB_78 : tyB Tryz.prog 78 = some ([(0, 1), (1, 1)], [.bool false, .int .i64 0]) := by kernel_rfl
theorem tA_79 : tyA Tryz.prog 79 = some (true, 2) := by kernel_rfl
theorem tF_79_0 : tyF Tryz.prog 79 0 = some (0, false, 1) := by kernel_rfl
theorem tF_79_1 : tyF Tryz.prog 79 1 = some (1, false, 1) := by kernel_rfl
theorem tZ_79 : tyZ Tryz.prog 79 = some (.agg ([.bool false, .int .i64 0]).toArray) := by kernel_rfl
theorem tB_79 : tyB Tryz.prog 79 = some ([(0, 1), (1, 1)], [.bool false, .int .i64 0]) := by kernel_rfl
theorem tA_80 : tyA Tryz.prog 80 = some (false, 1) := by kernel_rfl
theorem tA_81 : tyA Tryz.prog 81 = some (false, 1) := by kernel_rfl
theorem tA_82 : tyA Tryz.prog 82 = some (false, 1) := by kernel_rfl
theorem tA_83 : tyA Tryz.prog 83 = some (false, 1) := by kernel_rfl
theorem tA_84 : tyA Tryz.prog 84 = some (false, 1) := by kernel_rfl
theorem tA_85 : tyA Tryz.prog 85 = some (true, 3) := by kernel_rfl
theorem tF_85_0 : tyF Tryz.prog 85 0 = some (0, false, 1) := by kernel_rfl
theorem tF_85_1 : tyF Tryz.prog 85 1 = some (1, false, 1) := by kernel_rfl
theorem tF_85_2 : tyF Tryz.prog 85 2 = some (2, false, 1) := by kernel_rfl
theorem tZ_85 : tyZ Tryz.prog 85 = some (.agg ([.slice none 0 0, .int .i64 0, .int .u64 0]).toArray) := by kernel_rfl
theorem tB_85 : tyB Tryz.prog 85 = some ([(0, 1), (1, 1), (2, 1)], [.slice none 0 0, .int .i64 0, .int .u64 0]) := by kernel_rfl
theorem tA_86 : tyA Tryz.prog 86 = some (true, 3) := by kernel_rfl
theorem tF_86_0 : tyF Tryz.prog 86 0 = some (0, false, 1) := by kernel_rfl
theorem tF_86_1 : tyF Tryz.prog 86 1 = some (1, false, 1) := by kernel_rfl
theorem tF_86_2 : tyF Tryz.prog 86 2 = some (2, false, 1) := by kernel_rfl
theorem tZ_86 : tyZ Tryz.prog 86 = some (.agg ([.slice none 0 0, .int .i64 0, .int .u64 0]).toArray) := by kernel_rfl
theorem tB_86 : tyB Tryz.prog 86 = some ([(0, 1), (1, 1), (2, 1)], [.slice none 0 0, .int .i64 0, .int .u64 0]) := by kernel_rfl
theorem tA_87 : tyA Tryz.prog 87 = some (false, 1) := by kernel_rfl
theorem tA_88 : tyA Tryz.prog 88 = some (false, 1) := by kernel_rfl
theorem tS_88 : tyS Tryz.prog 88 = some (24, 1, 1) := by kernel_rfl
theorem tZ_88 : tyZ Tryz.prog 88 = some (.slice none 0 0) := by kernel_rfl
theorem tA_90 : tyA Tryz.prog 90 = some (false, 1) := by kernel_rfl
theorem tA_91 : tyA Tryz.prog 91 = some (false, 1) := by kernel_rfl
theorem tA_92 : tyA Tryz.prog 92 = some (false, 1) := by kernel_rfl
theorem tA_93 : tyA Tryz.prog 93 = some (false, 1) := by kernel_rfl
theorem tA_94 : tyA Tryz.prog 94 = some (false, 1) := by kernel_rfl
theorem tA_95 : tyA Tryz.prog 95 = some (false, 1) := by kernel_rfl
theorem tA_96 : tyA Tryz.prog 96 = some (false, 1) := by kernel_rfl
theorem tA_97 : tyA Tryz.prog 97 = some (false, 1) := by kernel_rfl
theorem tA_98 : tyA Tryz.prog 98 = some (false, 1) := by kernel_rfl
theorem tA_99 : tyA Tryz.prog 99 = some (false, 1) := by kernel_rfl
theorem tA_100 : tyA Tryz.prog 100 = some (false, 1) := by kernel_rfl
theorem tA_101 : tyA Tryz.prog 101 = some (false, 1) := by kernel_rfl
theorem tA_102 : tyA Tryz.prog 102 = some (false, 1) := by kernel_rfl
theorem tA_103 : tyA Tryz.prog 103 = some (false, 1) := by kernel_rfl
theorem tA_104 : tyA Tryz.prog 104 = some (false, 1) := by kernel_rfl
theorem tA_105 : tyA Tryz.prog 105 = some (false, 1) := by kernel_rfl
theorem tA_106 : tyA Tryz.prog 106 = some (false, 1) := by kernel_rfl
theorem tA_107 : tyA Tryz.prog 107 = some (false, 1) := by kernel_rfl
theorem tS_107 : tyS Tryz.prog 107 = some (79, 2, 16) := by kernel_rfl
theorem tZ_107 : tyZ Tryz.prog 107 = some (.slice none 0 0) := by kernel_rfl
theorem tA_108 : tyA Tryz.prog 108 = some (false, 1) := by kernel_rfl
theorem tA_109 : tyA Tryz.prog 109 = some (false, 1) := by kernel_rfl
theorem tA_111 : tyA Tryz.prog 111 = some (false, 1) := by kernel_rfl
theorem tA_112 : tyA Tryz.prog 112 = some (false, 1) := by kernel_rfl
theorem tA_113 : tyA Tryz.prog 113 = some (false, 1) := by kernel_rfl
theorem tA_114 : tyA Tryz.prog 114 = some (false, 1) := by kernel_rfl
theorem tA_115 : tyA Tryz.prog 115 = some (false, 1) := by kernel_rfl
theorem tA_116 : tyA Tryz.prog 116 = some (false, 1) := by kernel_rfl
theorem tA_117 : tyA Tryz.prog 117 = some (false, 1) := by kernel_rfl
theorem tA_118 : tyA Tryz.prog 118 = some (false, 1) := by kernel_rfl
theorem tA_119 : tyA Tryz.prog 119 = some (false, 1) := by kernel_rfl
theorem tA_120 : tyA Tryz.prog 120 = some (false, 1) := by kernel_rfl
theorem tA_121 : tyA Tryz.prog 121 = some (false, 1) := by kernel_rfl
theorem tA_122 : tyA Tryz.prog 122 = some (false, 1) := by kernel_rfl
theorem tA_123 : tyA Tryz.prog 123 = some (false, 1) := by kernel_rfl
theorem tA_124 : tyA Tryz.prog 124 = some (false, 1) := by kernel_rfl
theorem tA_125 : tyA Tryz.prog 125 = some (false, 1) := by kernel_rfl
theorem tA_126 : tyA Tryz.prog 126 = some (false, 1) := by kernel_rfl
theorem tI_126 : tyI Tryz.prog 126 = some .i64 := by kernel_rfl
theorem tZ_126 : tyZ Tryz.prog 126 = some (.int .i64 0) := by kernel_rfl
theorem tA_128 : tyA Tryz.prog 128 = some (false, 1) := by kernel_rfl
theorem tA_129 : tyA Tryz.prog 129 = some (false, 1) := by kernel_rfl
theorem tA_130 : tyA Tryz.prog 130 = some (false, 1) := by kernel_rfl
theorem tA_131 : tyA Tryz.prog 131 = some (false, 1) := by kernel_rfl
theorem tA_133 : tyA Tryz.prog 133 = some (false, 1) := by kernel_rfl
theorem tA_134 : tyA Tryz.prog 134 = some (false, 1) := by kernel_rfl
theorem tA_135 : tyA Tryz.prog 135 = some (false, 1) := by kernel_rfl
theorem tI_135 : tyI Tryz.prog 135 = some .u64 := by kernel_rfl
theorem tZ_135 : tyZ Tryz.prog 135 = some (.int .u64 0) := by kernel_rfl
theorem tA_136 : tyA Tryz.prog 136 = some (false, 1) := by kernel_rfl
theorem tA_137 : tyA Tryz.prog 137 = some (false, 1) := by kernel_rfl
theorem tA_138 : tyA Tryz.prog 138 = some (false, 1) := by kernel_rfl
theorem tA_139 : tyA Tryz.prog 139 = some (false, 1) := by kernel_rfl
theorem tA_140 : tyA Tryz.prog 140 = some (false, 1) := by kernel_rfl
theorem tA_141 : tyA Tryz.prog 141 = some (false, 1) := by kernel_rfl
theorem tA_143 : tyA Tryz.prog 143 = some (false, 1) := by kernel_rfl
theorem tA_144 : tyA Tryz.prog 144 = some (false, 1) := by kernel_rfl
theorem tA_150 : tyA Tryz.prog 150 = some (false, 1) := by kernel_rfl
theorem tA_153 : tyA Tryz.prog 153 = some (false, 1) := by kernel_rfl
theorem tA_154 : tyA Tryz.prog 154 = some (false, 1) := by kernel_rfl
theorem tA_159 : tyA Tryz.prog 159 = some (false, 1) := by kernel_rfl
theorem en_3 : entB Tryz.prog 3 = true := by kernel_rfl
theorem en_4 : entB Tryz.prog 4 = true := by kernel_rfl
theorem en_5 : entB Tryz.prog 5 = true := by kernel_rfl
theorem en_6 : entB Tryz.prog 6 = true := by kernel_rfl
theorem en_7 : entB Tryz.prog 7 = true := by kernel_rfl
theorem en_8 : entB Tryz.prog 8 = true := by kernel_rfl
theorem en_9 : entB Tryz.prog 9 = true := by kernel_rfl
theorem en_10 : entB Tryz.prog 10 = true := by kernel_rfl
theorem en_11 : entB Tryz.prog 11 = true := by kernel_rfl
theorem en_12 : entB Tryz.prog 12 = true := by kernel_rfl
theorem en_13 : entB Tryz.prog 13 = true := by kernel_rfl
theorem en_14 : entB Tryz.prog 14 = true := by kernel_rfl
theorem en_15 : entB Tryz.prog 15 = true := by kernel_rfl
theorem en_16 : entB Tryz.prog 16 = true := by kernel_rfl
theorem en_17 : entB Tryz.prog 17 = true := by kernel_rfl
theorem en_18 : entB Tryz.prog 18 = true := by kernel_rfl
theorem en_19 : entB Tryz.prog 19 = true := by kernel_rfl
theorem en_20 : entB Tryz.prog 20 = true := by kernel_rfl
theorem en_21 : entB Tryz.prog 21 = true := by kernel_rfl
theorem en_22 : entB Tryz.prog 22 = true := by kernel_rfl
theorem en_23 : entB Tryz.prog 23 = true := by kernel_rfl
theorem en_24 : entB Tryz.prog 24 = true := by kernel_rfl
theorem en_25 : entB Tryz.prog 25 = true := by kernel_rfl
theorem en_26 : entB Tryz.prog 26 = true := by kernel_rfl
theorem en_27 : entB Tryz.prog 27 = true := by kernel_rfl
theorem en_28 : entB Tryz.prog 28 = true := by kernel_rfl
theorem en_29 : entB Tryz.prog 29 = true := by kernel_rfl
theorem en_30 : entB Tryz.prog 30 = true := by kernel_rfl
theorem en_31 : entB Tryz.prog 31 = true := by kernel_rfl
theorem en_32 : entB Tryz.prog 32 = true := by kernel_rfl
theorem en_33 : entB Tryz.prog 33 = true := by kernel_rfl
theorem en_34 : entB Tryz.prog 34 = true := by kernel_rfl
theorem en_35 : entB Tryz.prog 35 = true := by kernel_rfl
theorem en_36 : entB Tryz.prog 36 = true := by kernel_rfl
theorem en_37 : entB Tryz.prog 37 = true := by kernel_rfl
theorem en_38 : entB Tryz.prog 38 = true := by kernel_rfl
theorem en_39 : entB Tryz.prog 39 = true := by kernel_rfl
theorem en_40 : entB Tryz.prog 40 = true := by kernel_rfl
theorem en_41 : entB Tryz.prog 41 = true := by kernel_rfl
theorem en_42 : entB Tryz.prog 42 = true := by kernel_rfl
theorem en_43 : entB Tryz.prog 43 = true := by kernel_rfl
theorem en_44 : entB Tryz.prog 44 = true := by kernel_rfl
theorem en_45 : entB Tryz.prog 45 = true := by kernel_rfl
theorem en_46 : entB Tryz.prog 46 = true := by kernel_rfl
theorem en_47 : entB Tryz.prog 47 = true := by kernel_rfl
theorem en_48 : entB Tryz.prog 48 = true := by kernel_rfl
theorem en_49 : entB Tryz.prog 49 = true := by kernel_rfl
theorem en_50 : entB Tryz.prog 50 = true := by kernel_rfl
theorem en_51 : entB Tryz.prog 51 = true := by kernel_rfl
theorem en_52 : entB Tryz.prog 52 = true := by kernel_rfl
theorem en_53 : entB Tryz.prog 53 = true := by kernel_rfl
theorem en_54 : entB Tryz.prog 54 = true := by kernel_rfl
theorem en_55 : entB Tryz.prog 55 = true := by kernel_rfl
theorem en_56 : entB Tryz.prog 56 = true := by kernel_rfl
theorem en_57 : entB Tryz.prog 57 = true := by kernel_rfl
theorem en_58 : entB Tryz.prog 58 = true := by kernel_rfl
theorem en_59 : entB Tryz.prog 59 = true := by kernel_rfl
theorem en_60 : entB Tryz.prog 60 = true := by kernel_rfl
theorem en_61 : entB Tryz.prog 61 = true := by kernel_rfl
theorem en_62 : entB Tryz.prog 62 = true := by kernel_rfl
theorem en_63 : entB Tryz.prog 63 = true := by kernel_rfl
theorem en_64 : entB Tryz.prog 64 = true := by kernel_rfl
theorem en_65 : entB Tryz.prog 65 = true := by kernel_rfl
theorem en_66 : entB Tryz.prog 66 = true := by kernel_rfl
theorem en_67 : entB Tryz.prog 67 = true := by kernel_rfl
theorem en_68 : entB Tryz.prog 68 = true := by kernel_rfl
theorem en_69 : entB Tryz.prog 69 = true := by kernel_rfl
theorem en_70 : entB Tryz.prog 70 = true := by kernel_rfl
theorem en_71 : entB Tryz.prog 71 = true := by kernel_rfl
theorem en_72 : entB Tryz.prog 72 = true := by kernel_rfl
theorem en_73 : entB Tryz.prog 73 = true := by kernel_rfl
theorem en_74 : entB Tryz.prog 74 = true := by kernel_rfl
theorem en_75 : entB Tryz.prog 75 = true := by kernel_rfl
theorem en_76 : entB Tryz.prog 76 = true := by kernel_rfl
theorem en_77 : entB Tryz.prog 77 = true := by kernel_rfl
theorem en_78 : entB Tryz.prog 78 = true := by kernel_rfl
theorem en_79 : entB Tryz.prog 79 = true := by kernel_rfl
theorem en_80 : entB Tryz.prog 80 = true := by kernel_rfl
theorem en_81 : entB Tryz.prog 81 = true := by kernel_rfl
theorem en_82 : entB Tryz.prog 82 = true := by kernel_rfl
theorem en_83 : entB Tryz.prog 83 = true := by kernel_rfl
theorem en_84 : entB Tryz.prog 84 = true := by kernel_rfl
theorem en_85 : entB Tryz.prog 85 = true := by kernel_rfl
theorem en_86 : entB Tryz.prog 86 = true := by kernel_rfl
theorem en_87 : entB Tryz.prog 87 = true := by kernel_rfl
theorem en_88 : entB Tryz.prog 88 = true := by kernel_rfl
theorem en_89 : entB Tryz.prog 89 = true := by kernel_rfl
theorem en_90 : entB Tryz.prog 90 = true := by kernel_rfl
theorem en_91 : entB Tryz.prog 91 = true := by kernel_rfl
theorem en_92 : entB Tryz.prog 92 = true := by kernel_rfl
theorem en_93 : entB Tryz.prog 93 = true := by kernel_rfl
theorem en_94 : entB Tryz.prog 94 = true := by kernel_rfl
theorem en_95 : entB Tryz.prog 95 = true := by kernel_rfl
theorem en_96 : entB Tryz.prog 96 = true := by kernel_rfl
theorem en_97 : entB Tryz.prog 97 = true := by kernel_rfl
theorem en_98 : entB Tryz.prog 98 = true := by kernel_rfl
theorem en_99 : entB Tryz.prog 99 = true := by kernel_rfl
theorem en_100 : entB Tryz.prog 100 = true := by kernel_rfl
theorem en_101 : entB Tryz.prog 101 = true := by kernel_rfl
theorem en_102 : entB Tryz.prog 102 = true := by kernel_rfl
theorem en_103 : entB Tryz.prog 103 = true := by kernel_rfl
theorem en_104 : entB Tryz.prog 104 = true := by kernel_rfl
theorem en_105 : entB Tryz.prog 105 = true := by kernel_rfl
theorem en_106 : entB Tryz.prog 106 = true := by kernel_rfl
theorem en_107 : entB Tryz.prog 107 = true := by kernel_rfl
end Go.Proofs.YtabekcodjcbolaaGreat
