/-
  Facts of the types and functions of this translation, each computed by the kernel; by a program of ours.
-/
import Derived.Test.YtagghfllgafmgaaProg
import Derived.Test.YtagghfllgafmgaaSl
namespace Go.Proofs.Ytagghfllgafmgaa
set_option linter.unusedVariables false
theorem hmix : Try.prog.follows .mixedOrders = true := by kernel_rfl
theorem tA_1 : tyA Try.prog 1 = some (false, 1) := by kernel_rfl
theorem tA_2 : tyA Try.prog 2 = some (false, 1) := by kernel_rfl
theorem tI_2 : tyI Try.prog 2 = some .i64 := by kernel_rfl
theorem tZ_2 : tyZ Try.prog 2 = some (.int .i64 0) := by kernel_rfl
theorem tA_3 : tyA Try.prog 3 = some (false, 1) := by kernel_rfl
theorem tI_3 : tyI Try.prog 3 = some .i64 := by kernel_rfl
theorem tZ_3 : tyZ Try.prog 3 = some (.int .i64 0) := by kernel_rfl
theorem tA_4 : tyA Try.prog 4 = some (false, 1) := by kernel_rfl
theorem tZ_4 : tyZ Try.prog 4 = some (.bool false) := by kernel_rfl
theorem tA_5 : tyA Try.prog 5 = some (false, 1) := by kernel_rfl
theorem tI_5 : tyI Try.prog 5 = some .u8 := by kernel_rfl
theorem tZ_5 : tyZ Try.prog 5 = some (.int .u8 0) := by kernel_rfl
theorem tA_9 : tyA Try.prog 9 = some (false, 1) := by kernel_rfl
theorem tZ_9 : tyZ Try.prog 9 = some (.string ⟨#[]⟩) := by kernel_rfl
theorem tA_12 : tyA Try.prog 12 = some (false, 1) := by kernel_rfl
theorem tI_12 : tyI Try.prog 12 = some .u64 := by kernel_rfl
theorem tZ_12 : tyZ Try.prog 12 = some (.int .u64 0) := by kernel_rfl
theorem tA_21 : tyA Try.prog 21 = some (false, 1) := by kernel_rfl
theorem tI_21 : tyI Try.prog 21 = some .i32 := by kernel_rfl
theorem tZ_21 : tyZ Try.prog 21 = some (.int .i32 0) := by kernel_rfl
theorem tA_22 : tyA Try.prog 22 = some (false, 1) := by kernel_rfl
theorem tI_22 : tyI Try.prog 22 = some .i8 := by kernel_rfl
theorem tZ_22 : tyZ Try.prog 22 = some (.int .i8 0) := by kernel_rfl
theorem tA_23 : tyA Try.prog 23 = some (true, 64) := by kernel_rfl
theorem tE_23 : tyE Try.prog 23 = some (64, false, 1) := by kernel_rfl
theorem tZ_23 : tyZ Try.prog 23 = some (.agg (arrU .u8 64 (fun _ => 0)).toArray) := by kernel_rfl
theorem tB_23 : tyB Try.prog 23 = some ([(0, 1), (1, 1), (2, 1), (3, 1), (4, 1), (5, 1), (6, 1), (7, 1), (8, 1), (9, 1), (10, 1), (11, 1), (12, 1), (13, 1), (14, 1), (15, 1), (16, 1), (17, 1), (18, 1), (19, 1), (20, 1), (21, 1), (22, 1), (23, 1), (24, 1), (25, 1), (26, 1), (27, 1), (28, 1), (29, 1), (30, 1), (31, 1), (32, 1), (33, 1), (34, 1), (35, 1), (36, 1), (37, 1), (38, 1), (39, 1), (40, 1), (41, 1), (42, 1), (43, 1), (44, 1), (45, 1), (46, 1), (47, 1), (48, 1), (49, 1), (50, 1), (51, 1), (52, 1), (53, 1), (54, 1), (55, 1), (56, 1), (57, 1), (58, 1), (59, 1), (60, 1), (61, 1), (62, 1), (63, 1)], arrU .u8 64 (fun _ => 0)) := by kernel_rfl
theorem tA_24 : tyA Try.prog 24 = some (true, 65) := by kernel_rfl
theorem tF_24_0 : tyF Try.prog 24 0 = some (0, false, 1) := by kernel_rfl
theorem tF_24_1 : tyF Try.prog 24 1 = some (1, true, 64) := by kernel_rfl
theorem tZ_24 : tyZ Try.prog 24 = some (.agg ([.int .i8 0, .int .u8 0, .int .u8 0, .int .u8 0, .int .u8 0, .int .u8 0, .int .u8 0, .int .u8 0, .int .u8 0, .int .u8 0, .int .u8 0, .int .u8 0, .int .u8 0, .int .u8 0, .int .u8 0, .int .u8 0, .int .u8 0, .int .u8 0, .int .u8 0, .int .u8 0, .int .u8 0, .int .u8 0, .int .u8 0, .int .u8 0, .int .u8 0, .int .u8 0, .int .u8 0, .int .u8 0, .int .u8 0, .int .u8 0, .int .u8 0, .int .u8 0, .int .u8 0, .int .u8 0, .int .u8 0, .int .u8 0, .int .u8 0, .int .u8 0, .int .u8 0, .int .u8 0, .int .u8 0, .int .u8 0, .int .u8 0, .int .u8 0, .int .u8 0, .int .u8 0, .int .u8 0, .int .u8 0, .int .u8 0, .int .u8 0, .int .u8 0, .int .u8 0, .int .u8 0, .int .u8 0, .int .u8 0, .int .u8 0, .int .u8 0, .int .u8 0, .int .u8 0, .int .u8 0, .int .u8 0, .int .u8 0, .int .u8 0, .int .u8 0, .int .u8 0]).toArray) := by kernel_rfl
theorem tB_24 : tyB Try.prog 24 = some ([(0, 1), (1, 64)], [.int .i8 0, .int .u8 0, .int .u8 0, .int .u8 0, .int .u8 0, .int .u8 0, .int .u8 0, .int .u8 0, .int .u8 0, .int .u8 0, .int .u8 0, .int .u8 0, .int .u8 0, .int .u8 0, .int .u8 0, .int .u8 0, .int .u8 0, .int .u8 0, .int .u8 0, .int .u8 0, .int .u8 0, .int .u8 0, .int .u8 0, .int .u8 0, .int .u8 0, .int .u8 0, .int .u8 0, .int .u8 0, .int .u8 0, .int .u8 0, .int .u8 0, .int .u8 0, .int .u8 0, .int .u8 0, .int .u8 0, .int .u8 0, .int .u8 0, .int .u8 0, .int .u8 0, .int .u8 0, .int .u8 0, .int .u8 0, .int .u8 0, .int .u8 0, .int .u8 0, .int .u8 0, .int .u8 0, .int .u8 0, .int .u8 0, .int .u8 0, .int .u8 0, .int .u8 0, .int .u8 0, .int .u8 0, .int .u8 0, .int .u8 0, .int .u8 0, .int .u8 0, .int .u8 0, .int .u8 0, .int .u8 0, .int .u8 0, .int .u8 0, .int .u8 0, .int .u8 0]) := by kernel_rfl
theorem tA_25 : tyA Try.prog 25 = some (true, 65) := by kernel_rfl
theorem tF_25_0 : tyF Try.prog 25 0 = some (0, false, 1) := by kernel_rfl
theorem tF_25_1 : tyF Try.prog 25 1 = some (1, true, 64) := by kernel_rfl
theorem tZ_25 : tyZ Try.prog 25 = some (.agg (layV 0 (fun _ => 0)).toArray) := by kernel_rfl
theorem tB_25 : tyB Try.prog 25 = some ([(0, 1), (1, 64)], layV 0 (fun _ => 0)) := by kernel_rfl
theorem tA_26 : tyA Try.prog 26 = some (false, 1) := by kernel_rfl
theorem tI_26 : tyI Try.prog 26 = some .u32 := by kernel_rfl
theorem tZ_26 : tyZ Try.prog 26 = some (.int .u32 0) := by kernel_rfl
theorem tA_28 : tyA Try.prog 28 = some (false, 1) := by kernel_rfl
theorem tA_29 : tyA Try.prog 29 = some (true, 65) := by kernel_rfl
theorem tF_29_0 : tyF Try.prog 29 0 = some (0, false, 1) := by kernel_rfl
theorem tF_29_1 : tyF Try.prog 29 1 = some (1, true, 64) := by kernel_rfl
theorem tZ_29 : tyZ Try.prog 29 = some (.agg (layV 0 (fun _ => 0)).toArray) := by kernel_rfl
theorem tB_29 : tyB Try.prog 29 = some ([(0, 1), (1, 64)], layV 0 (fun _ => 0)) := by kernel_rfl
theorem tA_30 : tyA Try.prog 30 = some (false, 1) := by kernel_rfl
theorem tA_31 : tyA Try.prog 31 = some (false, 1) := by kernel_rfl
theorem tA_32 : tyA Try.prog 32 = some (false, 1) := by kernel_rfl
theorem tS_32 : tyS Try.prog 32 = some (25, 65, 65) := by kernel_rfl
theorem tZ_32 : tyZ Try.prog 32 = some (.slice none 0 0) := by kernel_rfl
theorem tA_33 : tyA Try.prog 33 = some (false, 1) := by kernel_rfl
theorem tA_34 : tyA Try.prog 34 = some (false, 1) := by kernel_rfl
theorem tS_34 : tyS Try.prog 34 = some (26, 1, 4) := by kernel_rfl
theorem tZ_34 : tyZ Try.prog 34 = some (.slice none 0 0) := by kernel_rfl
theorem tA_36 : tyA Try.prog 36 = some (false, 1) := by kernel_rfl
theorem tA_37 : tyA Try.prog 37 = some (false, 1) := by kernel_rfl
theorem tS_37 : tyS Try.prog 37 = some (29, 65, 65) := by kernel_rfl
theorem tZ_37 : tyZ Try.prog 37 = some (.slice none 0 0) := by kernel_rfl
theorem tA_38 : tyA Try.prog 38 = some (false, 1) := by kernel_rfl
theorem tA_39 : tyA Try.prog 39 = some (false, 1) := by kernel_rfl
theorem tA_40 : tyA Try.prog 40 = some (false, 1) := by kernel_rfl
theorem tA_41 : tyA Try.prog 41 = some (false, 1) := by kernel_rfl
theorem tA_42 : tyA Try.prog 42 = some (false, 1) := by kernel_rfl
theorem tA_43 : tyA Try.prog 43 = some (false, 1) := by kernel_rfl
theorem tA_44 : tyA Try.prog 44 = some (false, 1) := by kernel_rfl
theorem tS_44 : tyS Try.prog 44 = some (2, 1, 8) := by kernel_rfl
theorem tZ_44 : tyZ Try.prog 44 = some (.slice none 0 0) := by kernel_rfl
theorem tA_46 : tyA Try.prog 46 = some (false, 1) := by kernel_rfl
theorem tA_47 : tyA Try.prog 47 = some (false, 1) := by kernel_rfl
theorem tA_48 : tyA Try.prog 48 = some (false, 1) := by kernel_rfl
theorem tA_49 : tyA Try.prog 49 = some (false, 1) := by kernel_rfl
theorem tA_50 : tyA Try.prog 50 = some (false, 1) := by kernel_rfl
theorem tA_51 : tyA Try.prog 51 = some (false, 1) := by kernel_rfl
theorem tI_51 : tyI Try.prog 51 = some .u64 := by kernel_rfl
theorem tZ_51 : tyZ Try.prog 51 = some (.int .u64 0) := by kernel_rfl
theorem tA_53 : tyA Try.prog 53 = some (false, 1) := by kernel_rfl
theorem tA_54 : tyA Try.prog 54 = some (false, 1) := by kernel_rfl
theorem tI_54 : tyI Try.prog 54 = some .u64 := by kernel_rfl
theorem tZ_54 : tyZ Try.prog 54 = some (.int .u64 0) := by kernel_rfl
theorem tA_55 : tyA Try.prog 55 = some (false, 1) := by kernel_rfl
theorem tA_56 : tyA Try.prog 56 = some (true, 6) := by kernel_rfl
theorem tE_56 : tyE Try.prog 56 = some (6, false, 1) := by kernel_rfl
theorem tZ_56 : tyZ Try.prog 56 = some (.agg (arrU .u8 6 (fun _ => 0)).toArray) := by kernel_rfl
theorem tB_56 : tyB Try.prog 56 = some ([(0, 1), (1, 1), (2, 1), (3, 1), (4, 1), (5, 1)], arrU .u8 6 (fun _ => 0)) := by kernel_rfl
theorem tA_57 : tyA Try.prog 57 = some (true, 14) := by kernel_rfl
theorem tF_57_0 : tyF Try.prog 57 0 = some (0, false, 1) := by kernel_rfl
theorem tF_57_1 : tyF Try.prog 57 1 = some (1, false, 1) := by kernel_rfl
theorem tF_57_2 : tyF Try.prog 57 2 = some (2, true, 6) := by kernel_rfl
theorem tF_57_3 : tyF Try.prog 57 3 = some (8, true, 6) := by kernel_rfl
theorem tZ_57 : tyZ Try.prog 57 = some (.agg ([.int .i8 0, .int .i8 0, .int .u8 0, .int .u8 0, .int .u8 0, .int .u8 0, .int .u8 0, .int .u8 0, .int .u8 0, .int .u8 0, .int .u8 0, .int .u8 0, .int .u8 0, .int .u8 0]).toArray) := by kernel_rfl
theorem tB_57 : tyB Try.prog 57 = some ([(0, 1), (1, 1), (2, 6), (8, 6)], [.int .i8 0, .int .i8 0, .int .u8 0, .int .u8 0, .int .u8 0, .int .u8 0, .int .u8 0, .int .u8 0, .int .u8 0, .int .u8 0, .int .u8 0, .int .u8 0, .int .u8 0, .int .u8 0]) := by kernel_rfl
theorem tA_58 : tyA Try.prog 58 = some (true, 14) := by kernel_rfl
theorem tF_58_0 : tyF Try.prog 58 0 = some (0, false, 1) := by kernel_rfl
theorem tF_58_1 : tyF Try.prog 58 1 = some (1, false, 1) := by kernel_rfl
theorem tF_58_2 : tyF Try.prog 58 2 = some (2, true, 6) := by kernel_rfl
theorem tF_58_3 : tyF Try.prog 58 3 = some (8, true, 6) := by kernel_rfl
theorem tZ_58 : tyZ Try.prog 58 = some (.agg (schV 0 0 (fun _ => 0) (fun _ => 0)).toArray) := by kernel_rfl
theorem tB_58 : tyB Try.prog 58 = some ([(0, 1), (1, 1), (2, 6), (8, 6)], schV 0 0 (fun _ => 0) (fun _ => 0)) := by kernel_rfl
theorem tA_59 : tyA Try.prog 59 = some (false, 1) := by kernel_rfl
theorem tS_59 : tyS Try.prog 59 = some (51, 1, 8) := by kernel_rfl
theorem tZ_59 : tyZ Try.prog 59 = some (.slice none 0 0) := by kernel_rfl
theorem tA_61 : tyA Try.prog 61 = some (false, 1) := by kernel_rfl
theorem tA_62 : tyA Try.prog 62 = some (true, 14) := by kernel_rfl
theorem tF_62_0 : tyF Try.prog 62 0 = some (0, false, 1) := by kernel_rfl
theorem tF_62_1 : tyF Try.prog 62 1 = some (1, false, 1) := by kernel_rfl
theorem tF_62_2 : tyF Try.prog 62 2 = some (2, true, 6) := by kernel_rfl
theorem tF_62_3 : tyF Try.prog 62 3 = some (8, true, 6) := by kernel_rfl
theorem tZ_62 : tyZ Try.prog 62 = some (.agg (schV 0 0 (fun _ => 0) (fun _ => 0)).toArray) := by kernel_rfl
theorem tB_62 : tyB Try.prog 62 = some ([(0, 1), (1, 1), (2, 6), (8, 6)], schV 0 0 (fun _ => 0) (fun _ => 0)) := by kernel_rfl
theorem tA_63 : tyA Try.prog 63 = some (false, 1) := by kernel_rfl
theorem tA_64 : tyA Try.prog 64 = some (false, 1) := by kernel_rfl
theorem tS_64 : tyS Try.prog 64 = some (54, 1, 8) := by kernel_rfl
theorem tZ_64 : tyZ Try.prog 64 = some (.slice none 0 0) := by kernel_rfl
theorem tA_65 : tyA Try.prog 65 = some (false, 1) := by kernel_rfl
theorem tA_66 : tyA Try.prog 66 = some (false, 1) := by kernel_rfl
theorem tA_67 : tyA Try.prog 67 = some (false, 1) := by kernel_rfl
theorem tA_68 : tyA Try.prog 68 = some (false, 1) := by kernel_rfl
theorem tS_68 : tyS Try.prog 68 = some (5, 1, 1) := by kernel_rfl
theorem tZ_68 : tyZ Try.prog 68 = some (.slice none 0 0) := by kernel_rfl
theorem tA_69 : tyA Try.prog 69 = some (false, 1) := by kernel_rfl
theorem tA_70 : tyA Try.prog 70 = some (false, 1) := by kernel_rfl
theorem tA_71 : tyA Try.prog 71 = some (false, 1) := by kernel_rfl
theorem tA_72 : tyA Try.prog 72 = some (false, 1) := by kernel_rfl
theorem tA_74 : tyA Try.prog 74 = some (false, 1) := by kernel_rfl
theorem tA_75 : tyA Try.prog 75 = some (false, 1) := by kernel_rfl
theorem tA_76 : tyA Try.prog 76 = some (false, 1) := by kernel_rfl
theorem tI_76 : tyI Try.prog 76 = some .u64 := by kernel_rfl
theorem tZ_76 : tyZ Try.prog 76 = some (.int .u64 0) := by kernel_rfl
theorem tA_78 : tyA Try.prog 78 = some (false, 1) := by kernel_rfl
theorem tA_80 : tyA Try.prog 80 = some (false, 1) := by kernel_rfl
theorem tA_81 : tyA Try.prog 81 = some (false, 1) := by kernel_rfl
theorem tA_83 : tyA Try.prog 83 = some (false, 1) := by kernel_rfl
theorem tA_84 : tyA Try.prog 84 = some (false, 1) := by kernel_rfl
theorem tA_85 : tyA Try.prog 85 = some (false, 1) := by kernel_rfl
theorem tA_86 : tyA Try.prog 86 = some (false, 1) := by kernel_rfl
theorem tA_87 : tyA Try.prog 87 = some (false, 1) := by kernel_rfl
theorem tA_88 : tyA Try.prog 88 = some (false, 1) := by kernel_rfl
theorem tA_89 : tyA Try.prog 89 = some (false, 1) := by kernel_rfl
theorem tA_90 : tyA Try.prog 90 = some (false, 1) := by kernel_rfl
theorem tA_91 : tyA Try.prog 91 = some (false, 1) := by kernel_rfl
theorem tA_92 : tyA Try.prog 92 = some (false, 1) := by kernel_rfl
theorem tA_93 : tyA Try.prog 93 = some (false, 1) := by kernel_rfl
theorem tA_94 : tyA Try.prog 94 = some (true, 2) := by kernel_rfl
theorem tF_94_0 : tyF Try.prog 94 0 = some (0, false, 1) := by kernel_rfl
theorem tF_94_1 : tyF Try.prog 94 1 = some (1, false, 1) := by kernel_rfl
theorem tZ_94 : tyZ Try.prog 94 = some (.agg ([.bool false, .int .i64 0]).toArray) := by kernel_rfl
theorem tB_94 : tyB Try.prog 94 = some ([(0, 1), (1, 1)], [.bool false, .int .i64 0]) := by kernel_rfl
theorem tA_95 : tyA Try.prog 95 = some (true, 2) := by kernel_rfl
theorem tF_95_0 : tyF Try.prog 95 0 = some (0, false, 1) := by kernel_rfl
theorem tF_95_1 : tyF Try.prog 95 1 = some (1, false, 1) := by kernel_rfl
theorem tZ_95 : tyZ Try.prog 95 = some (.agg ([.bool false, .int .i64 0]).toArray) := by kernel_rfl
theorem tB_95 : tyB Try.prog 95 = some ([(0, 1), (1, 1)], [.bool false, .int .i64 0]) := by kernel_rfl
theorem tA_96 : tyA Try.prog 96 = some (false, 1) := by kernel_rfl
theorem tA_97 : tyA Try.prog 97 = some (false, 1) := by kernel_rfl
theorem tA_98 : tyA Try.prog 98 = some (false, 1) := by kernel_rfl
theorem tA_100 : tyA Try.prog 100 = some (false, 1) := by kernel_rfl
theorem tA_101 : tyA Try.prog 101 = some (false, 1) := by kernel_rfl
theorem tA_102 : tyA Try.prog 102 = some (false, 1) := by kernel_rfl
theorem tA_104 : tyA Try.prog 104 = some (false, 1) := by kernel_rfl
theorem tA_105 : tyA Try.prog 105 = some (false, 1) := by kernel_rfl
theorem tA_106 : tyA Try.prog 106 = some (false, 1) := by kernel_rfl
theorem tA_107 : tyA Try.prog 107 = some (false, 1) := by kernel_rfl
theorem tA_108 : tyA Try.prog 108 = some (false, 1) := by kernel_rfl
theorem tA_109 : tyA Try.prog 109 = some (false, 1) := by kernel_rfl
theorem tA_110 : tyA Try.prog 110 = some (false, 1) := by kernel_rfl
theorem tA_111 : tyA Try.prog 111 = some (false, 1) := by kernel_rfl
theorem tA_112 : tyA Try.prog 112 = some (false, 1) := by kernel_rfl
theorem tA_114 : tyA Try.prog 114 = some (false, 1) := by kernel_rfl
theorem tA_115 : tyA Try.prog 115 = some (false, 1) := by kernel_rfl
theorem tA_116 : tyA Try.prog 116 = some (false, 1) := by kernel_rfl
theorem tA_117 : tyA Try.prog 117 = some (false, 1) := by kernel_rfl
theorem tA_118 : tyA Try.prog 118 = some (false, 1) := by kernel_rfl
theorem tA_119 : tyA Try.prog 119 = some (false, 1) := by kernel_rfl
theorem tA_120 : tyA Try.prog 120 = some (false, 1) := by kernel_rfl
theorem tA_121 : tyA Try.prog 121 = some (false, 1) := by kernel_rfl
theorem tA_122 : tyA Try.prog 122 = some (false, 1) := by kernel_rfl
theorem tA_123 : tyA Try.prog 123 = some (false, 1) := by kernel_rfl
theorem tA_124 : tyA Try.prog 124 = some (false, 1) := by kernel_rfl
theorem tA_125 : tyA Try.prog 125 = some (false, 1) := by kernel_rfl
theorem tA_126 : tyA Try.prog 126 = some (false, 1) := by kernel_rfl
theorem tA_127 : tyA Try.prog 127 = some (false, 1) := by kernel_rfl
theorem tS_127 : tyS Try.prog 127 = some (95, 2, 16) := by kernel_rfl
theorem tZ_127 : tyZ Try.prog 127 = some (.slice none 0 0) := by kernel_rfl
theorem tA_128 : tyA Try.prog 128 = some (false, 1) := by kernel_rfl
theorem tA_129 : tyA Try.prog 129 = some (false, 1) := by kernel_rfl
theorem tA_130 : tyA Try.prog 130 = some (false, 1) := by kernel_rfl
theorem tA_131 : tyA Try.prog 131 = some (false, 1) := by kernel_rfl
theorem tA_132 : tyA Try.prog 132 = some (false, 1) := by kernel_rfl
theorem tA_133 : tyA Try.prog 133 = some (false, 1) := by kernel_rfl
theorem tA_134 : tyA Try.prog 134 = some (false, 1) := by kernel_rfl
theorem tA_135 : tyA Try.prog 135 = some (false, 1) := by kernel_rfl
theorem tA_136 : tyA Try.prog 136 = some (false, 1) := by kernel_rfl
theorem tA_137 : tyA Try.prog 137 = some (true, 3) := by kernel_rfl
theorem tF_137_0 : tyF Try.prog 137 0 = some (0, false, 1) := by kernel_rfl
theorem tF_137_1 : tyF Try.prog 137 1 = some (1, false, 1) := by kernel_rfl
theorem tF_137_2 : tyF Try.prog 137 2 = some (2, false, 1) := by kernel_rfl
theorem tZ_137 : tyZ Try.prog 137 = some (.agg ([.slice none 0 0, .int .i64 0, .int .u64 0]).toArray) := by kernel_rfl
theorem tB_137 : tyB Try.prog 137 = some ([(0, 1), (1, 1), (2, 1)], [.slice none 0 0, .int .i64 0, .int .u64 0]) := by kernel_rfl
theorem tA_138 : tyA Try.prog 138 = some (true, 3) := by kernel_rfl
theorem tF_138_0 : tyF Try.prog 138 0 = some (0, false, 1) := by kernel_rfl
theorem tF_138_1 : tyF Try.prog 138 1 = some (1, false, 1) := by kernel_rfl
theorem tF_138_2 : tyF Try.prog 138 2 = some (2, false, 1) := by kernel_rfl
theorem tZ_138 : tyZ Try.prog 138 = some (.agg ([.slice none 0 0, .int .i64 0, .int .u64 0]).toArray) := by kernel_rfl
theorem tB_138 : tyB Try.prog 138 = some ([(0, 1), (1, 1), (2, 1)], [.slice none 0 0, .int .i64 0, .int .u64 0]) := by kernel_rfl
theorem tA_139 : tyA Try.prog 139 = some (false, 1) := by kernel_rfl
theorem tA_140 : tyA Try.prog 140 = some (false, 1) := by kernel_rfl
theorem tS_140 : tyS Try.prog 140 = some (22, 1, 1) := by kernel_rfl
theorem tZ_140 : tyZ Try.prog 140 = some (.slice none 0 0) := by kernel_rfl
theorem tA_142 : tyA Try.prog 142 = some (false, 1) := by kernel_rfl
theorem tA_143 : tyA Try.prog 143 = some (false, 1) := by kernel_rfl
theorem tA_144 : tyA Try.prog 144 = some (false, 1) := by kernel_rfl
theorem tA_145 : tyA Try.prog 145 = some (false, 1) := by kernel_rfl
theorem tA_146 : tyA Try.prog 146 = some (false, 1) := by kernel_rfl
theorem tA_147 : tyA Try.prog 147 = some (false, 1) := by kernel_rfl
theorem tA_148 : tyA Try.prog 148 = some (false, 1) := by kernel_rfl
theorem tA_149 : tyA Try.prog 149 = some (false, 1) := by kernel_rfl
theorem tA_151 : tyA Try.prog 151 = some (false, 1) := by kernel_rfl
theorem tA_152 : tyA Try.prog 152 = some (false, 1) := by kernel_rfl
theorem tA_153 : tyA Try.prog 153 = some (false, 1) := by kernel_rfl
theorem tA_154 : tyA Try.prog 154 = some (false, 1) := by kernel_rfl
theorem tA_155 : tyA Try.prog 155 = some (false, 1) := by kernel_rfl
theorem tA_156 : tyA Try.prog 156 = some (false, 1) := by kernel_rfl
theorem tA_157 : tyA Try.prog 157 = some (false, 1) := by kernel_rfl
theorem tA_163 : tyA Try.prog 163 = some (false, 1) := by kernel_rfl
theorem tA_166 : tyA Try.prog 166 = some (false, 1) := by kernel_rfl
theorem tA_167 : tyA Try.prog 167 = some (false, 1) := by kernel_rfl
theorem en_3 : entB Try.prog 3 = true := by kernel_rfl
theorem en_4 : entB Try.prog 4 = true := by kernel_rfl
theorem en_5 : entB Try.prog 5 = true := by kernel_rfl
theorem en_6 : entB Try.prog 6 = true := by kernel_rfl
theorem en_7 : entB Try.prog 7 = true := by kernel_rfl
theorem en_8 : entB Try.prog 8 = true := by kernel_rfl
theorem en_9 : entB Try.prog 9 = true := by kernel_rfl
theorem en_10 : entB Try.prog 10 = true := by kernel_rfl
theorem en_11 : entB Try.prog 11 = true := by kernel_rfl
theorem en_12 : entB Try.prog 12 = true := by kernel_rfl
theorem en_13 : entB Try.prog 13 = true := by kernel_rfl
theorem en_14 : entB Try.prog 14 = true := by kernel_rfl
theorem en_15 : entB Try.prog 15 = true := by kernel_rfl
theorem en_16 : entB Try.prog 16 = true := by kernel_rfl
theorem en_17 : entB Try.prog 17 = true := by kernel_rfl
theorem en_18 : entB Try.prog 18 = true := by kernel_rfl
theorem en_19 : entB Try.prog 19 = true := by kernel_rfl
theorem en_20 : entB Try.prog 20 = true := by kernel_rfl
theorem en_21 : entB Try.prog 21 = true := by kernel_rfl
theorem en_22 : entB Try.prog 22 = true := by kernel_rfl
theorem en_23 : entB Try.prog 23 = true := by kernel_rfl
theorem en_24 : entB Try.prog 24 = true := by kernel_rfl
theorem en_25 : entB Try.prog 25 = true := by kernel_rfl
theorem en_26 : entB Try.prog 26 = true := by kernel_rfl
theorem en_27 : entB Try.prog 27 = true := by kernel_rfl
theorem en_28 : entB Try.prog 28 = true := by kernel_rfl
theorem en_29 : entB Try.prog 29 = true := by kernel_rfl
theorem en_30 : entB Try.prog 30 = true := by kernel_rfl
theorem en_31 : entB Try.prog 31 = true := by kernel_rfl
theorem en_32 : entB Try.prog 32 = true := by kernel_rfl
theorem en_33 : entB Try.prog 33 = true := by kernel_rfl
theorem en_34 : entB Try.prog 34 = true := by kernel_rfl
theorem en_35 : entB Try.prog 35 = true := by kernel_rfl
theorem en_36 : entB Try.prog 36 = true := by kernel_rfl
theorem en_37 : entB Try.prog 37 = true := by kernel_rfl
theorem en_38 : entB Try.prog 38 = true := by kernel_rfl
theorem en_39 : entB Try.prog 39 = true := by kernel_rfl
theorem en_40 : entB Try.prog 40 = true := by kernel_rfl
theorem en_41 : entB Try.prog 41 = true := by kernel_rfl
theorem en_42 : entB Try.prog 42 = true := by kernel_rfl
theorem en_43 : entB Try.prog 43 = true := by kernel_rfl
theorem en_44 : entB Try.prog 44 = true := by kernel_rfl
theorem en_45 : entB Try.prog 45 = true := by kernel_rfl
theorem en_46 : entB Try.prog 46 = true := by kernel_rfl
theorem en_47 : entB Try.prog 47 = true := by kernel_rfl
theorem en_48 : entB Try.prog 48 = true := by kernel_rfl
theorem en_49 : entB Try.prog 49 = true := by kernel_rfl
theorem en_50 : entB Try.prog 50 = true := by kernel_rfl
theorem en_51 : entB Try.prog 51 = true := by kernel_rfl
theorem en_52 : entB Try.prog 52 = true := by kernel_rfl
theorem en_53 : entB Try.prog 53 = true := by kernel_rfl
theorem en_54 : entB Try.prog 54 = true := by kernel_rfl
theorem en_55 : entB Try.prog 55 = true := by kernel_rfl
theorem en_56 : entB Try.prog 56 = true := by kernel_rfl
theorem en_57 : entB Try.prog 57 = true := by kernel_rfl
theorem en_58 : entB Try.prog 58 = true := by kernel_rfl
theorem en_59 : entB Try.prog 59 = true := by kernel_rfl
theorem en_60 : entB Try.prog 60 = true := by kernel_rfl
theorem en_61 : entB Try.prog 61 = true := by kernel_rfl
theorem en_62 : entB Try.prog 62 = true := by kernel_rfl
theorem en_63 : entB Try.prog 63 = true := by kernel_rfl
theorem en_64 : entB Try.prog 64 = true := by kernel_rfl
theorem en_65 : entB Try.prog 65 = true := by kernel_rfl
theorem en_66 : entB Try.prog 66 = true := by kernel_rfl
theorem en_67 : entB Try.prog 67 = true := by kernel_rfl
theorem en_68 : entB Try.prog 68 = true := by kernel_rfl
theorem en_69 : entB Try.prog 69 = true := by kernel_rfl
theorem en_70 : entB Try.prog 70 = true := by kernel_rfl
theorem en_71 : entB Try.prog 71 = true := by kernel_rfl
theorem en_72 : entB Try.prog 72 = true := by kernel_rfl
theorem en_73 : entB Try.prog 73 = true := by kernel_rfl
theorem en_74 : entB Try.prog 74 = true := by kernel_rfl
theorem en_75 : entB Try.prog 75 = true := by kernel_rfl
theorem en_76 : entB Try.prog 76 = true := by kernel_rfl
theorem en_77 : entB Try.prog 77 = true := by kernel_rfl
theorem en_78 : entB Try.prog 78 = true := by kernel_rfl
theorem en_79 : entB Try.prog 79 = true := by kernel_rfl
theorem en_80 : entB Try.prog 80 = true := by kernel_rfl
theorem en_81 : entB Try.prog 81 = true := by kernel_rfl
theorem en_82 : entB Try.prog 82 = true := by kernel_rfl
theorem en_83 : entB Try.prog 83 = true := by kernel_rfl
theorem en_84 : entB Try.prog 84 = true := by kernel_rfl
theorem en_85 : entB Try.prog 85 = true := by kernel_rfl
theorem en_86 : entB Try.prog 86 = true := by kernel_rfl
theorem en_87 : entB Try.prog 87 = true := by kernel_rfl
theorem en_88 : entB Try.prog 88 = true := by kernel_rfl
theorem en_89 : entB Try.prog 89 = true := by kernel_rfl
theorem en_90 : entB Try.prog 90 = true := by kernel_rfl
theorem en_91 : entB Try.prog 91 = true := by kernel_rfl
theorem en_92 : entB Try.prog 92 = true := by kernel_rfl
theorem en_93 : entB Try.prog 93 = true := by kernel_rfl
theorem en_94 : entB Try.prog 94 = true := by kernel_rfl
theorem en_95 : entB Try.prog 95 = true := by kernel_rfl
theorem en_96 : entB Try.prog 96 = true := by kernel_rfl
theorem en_97 : entB Try.prog 97 = true := by kernel_rfl
theorem en_98 : entB Try.prog 98 = true := by kernel_rfl
theorem en_99 : entB Try.prog 99 = true := by kernel_rfl
theorem en_100 : entB Try.prog 100 = true := by kernel_rfl
theorem en_101 : entB Try.prog 101 = true := by kernel_rfl
theorem en_102 : entB Try.prog 102 = true := by kernel_rfl
theorem en_103 : entB Try.prog 103 = true := by kernel_rfl
theorem en_104 : entB Try.prog 104 = true := by kernel_rfl
theorem en_105 : entB Try.prog 105 = true := by kernel_rfl
theorem en_106 : entB Try.prog 106 = true := by kernel_rfl
theorem en_107 : entB Try.prog 107 = true := by kernel_rfl
theorem en_108 : entB Try.prog 108 = true := by kernel_rfl
theorem en_109 : entB Try.prog 109 = true := by kernel_rfl
theorem en_110 : entB Try.prog 110 = true := by kernel_rfl
theorem en_111 : entB Try.prog 111 = true := by kernel_rfl
theorem en_112 : entB Try.prog 112 = true := by kernel_rfl
theorem en_113 : entB Try.prog 113 = true := by kernel_rfl
theorem en_114 : entB Try.prog 114 = true := by kernel_rfl
end Go.Proofs.Ytagghfllgafmgaa
