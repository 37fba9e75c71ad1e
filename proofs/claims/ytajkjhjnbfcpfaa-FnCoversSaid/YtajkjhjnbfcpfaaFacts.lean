/-
  Facts of the types and functions of this translation, each computed by the kernel; by a program of ours.
-/
import Derived.Test.YtajkjhjnbfcpfaaProg
import Derived.Test.YtajkjhjnbfcpfaaSl
namespace Go.Proofs.Ytajkjhjnbfcpfaa
set_option linter.unusedVariables false
theorem hmix : Try.prog.follows .mixedOrders = true := by kernel_rfl
theorem tA_1 : tyA Try.prog 1 = some (false, 1) := by kernel_rfl
theorem tA_2 : tyA Try.prog 2 = some (false, 1) := by kernel_rfl
theorem tI_2 : tyI Try.prog 2 = some .i64 := by kernel_rfl
theorem tZ_2 : tyZ Try.prog 2 = some (.int .i64 0) := by kernel_rfl
theorem tA_3 : tyA Try.prog 3 = some (false, 1) := by kernel_rfl
theorem tI_3 : tyI Try.prog 3 = some .i64 := by kernel_rfl
theorem tZ_3 : tyZ Try.prog 3 = some (.int .i64 0) := by kernel_rfl
theorem tA_4 : tyA Try.prog 4 = some (false, 1) := by kernel_rfl
theorem tZ_4 : tyZ Try.prog 4 = some (.bool false) := by kernel_rfl
theorem tA_5 : tyA Try.prog 5 = some (false, 1) := by kernel_rfl
theorem tI_5 : tyI Try.prog 5 = some .u8 := by kernel_rfl
theorem tZ_5 : tyZ Try.prog 5 = some (.int .u8 0) := by kernel_rfl
theorem tA_9 : tyA Try.prog 9 = some (false, 1) := by kernel_rfl
theorem tZ_9 : tyZ Try.prog 9 = some (.string ⟨#[]⟩) := by kernel_rfl
theorem tA_12 : tyA Try.prog 12 = some (false, 1) := by kernel_rfl
theorem tI_12 : tyI Try.prog 12 = some .u64 := by kernel_rfl
theorem tZ_12 : tyZ Try.prog 12 = some (.int .u64 0) := by kernel_rfl
theorem tA_21 : tyA Try.prog 21 = some (false, 1) := by kernel_rfl
theorem tI_21 : tyI Try.prog 21 = some .i32 := by kernel_rfl
theorem tZ_21 : tyZ Try.prog 21 = some (.int .i32 0) := by kernel_rfl
theorem tA_22 : tyA Try.prog 22 = some (false, 1) := by kernel_rfl
theorem tI_22 : tyI Try.prog 22 = some .i8 := by kernel_rfl
theorem tZ_22 : tyZ Try.prog 22 = some (.int .i8 0) := by kernel_rfl
theorem tA_23 : tyA Try.prog 23 = some (true, 64) := by kernel_rfl
theorem tE_23 : tyE Try.prog 23 = some (64, false, 1) := by kernel_rfl
theorem tZ_23 : tyZ Try.prog 23 = some (.agg (arrU .u8 64 (fun _ => 0)).toArray) := by kernel_rfl
theorem tB_23 : tyB Try.prog 23 = some ([(0, 1), (1, 1), (2, 1), (3, 1), (4, 1), (5, 1), (6, 1), (7, 1), (8, 1), (9, 1), (10, 1), (11, 1), (12, 1), (13, 1), (14, 1), (15, 1), (16, 1), (17, 1), (18, 1), (19, 1), (20, 1), (21, 1), (22, 1), (23, 1), (24, 1), (25, 1), (26, 1), (27, 1), (28, 1), (29, 1), (30, 1), (31, 1), (32, 1), (33, 1), (34, 1), (35, 1), (36, 1), (37, 1), (38, 1), (39, 1), (40, 1), (41, 1), (42, 1), (43, 1), (44, 1), (45, 1), (46, 1), (47, 1), (48, 1), (49, 1), (50, 1), (51, 1), (52, 1), (53, 1), (54, 1), (55, 1), (56, 1), (57, 1), (58, 1), (59, 1), (60, 1), (61, 1), (62, 1), (63, 1)], arrU .u8 64 (fun _ => 0)) := by kernel_rfl
theorem tA_24 : tyA Try.prog 24 = some (true, 65) := by kernel_rfl
theorem tF_24_0 : tyF Try.prog 24 0 = some (0, false, 1) := by kernel_rfl
theorem tF_24_1 : tyF Try.prog 24 1 = some (1, true, 64) := by kernel_rfl
theorem tZ_24 : tyZ Try.prog 24 = some (.agg ([.int .i8 0, .int .u8 0, .int .u8 0, .int .u8 0, .int .u8 0, .int .u8 0, .int .u8 0, .int .u8 0, .int .u8 0, .int .u8 0, .int .u8 0, .int .u8 0, .int .u8 0, .int .u8 0, .int .u8 0, .int .u8 0, .int .u8 0, .int .u8 0, .int .u8 0, .int .u8 0, .int .u8 0, .int .u8 0, .int .u8 0, .int .u8 0, .int .u8 0, .int .u8 0, .int .u8 0, .int .u8 0, .int .u8 0, .int .u8 0, .int .u8 0, .int .u8 0, .int .u8 0, .int .u8 0, .int .u8 0, .int .u8 0, .int .u8 0, .int .u8 0, .int .u8 0, .int .u8 0, .int .u8 0, .int .u8 0, .int .u8 0, .int .u8 0, .int .u8 0, .int .u8 0, .int .u8 0, .int .u8 0, .int .u8 0, .int .u8 0, .int .u8 0, .int .u8 0, .int .u8 0, .int .u8 0, .int .u8 0, .int .u8 0, .int .u8 0, .int .u8 0, .int .u8 0, .int .u8 0, .int .u8 0, .int .u8 0, .int .u8 0, .int .u8 0, .int .u8 0]).toArray) := by kernel_rfl
theorem tB_24 : tyB Try.prog 24 = some ([(0, 1), (1, 64)], [.int .i8 0, .int .u8 0, .int .u8 0, .int .u8 0, .int .u8 0, .int .u8 0, .int .u8 0, .int .u8 0, .int .u8 0, .int .u8 0, .int .u8 0, .int .u8 0, .int .u8 0, .int .u8 0, .int .u8 0, .int .u8 0, .int .u8 0, .int .u8 0, .int .u8 0, .int .u8 0, .int .u8 0, .int .u8 0, .int .u8 0, .int .u8 0, .int .u8 0, .int .u8 0, .int .u8 0, .int .u8 0, .int .u8 0, .int .u8 0, .int .u8 0, .int .u8 0, .int .u8 0, .int .u8 0, .int .u8 0, .int .u8 0, .int .u8 0, .int .u8 0, .int .u8 0, .int .u8 0, .int .u8 0, .int .u8 0, .int .u8 0, .int .u8 0, .int .u8 0, .int .u8 0, .int .u8 0, .int .u8 0, .int .u8 0, .int .u8 0, .int .u8 0, .int .u8 0, .int .u8 0, .int .u8 0, .int .u8 0, .int .u8 0, .int .u8 0, .int .u8 0, .int .u8 0, .int .u8 0, .int .u8 0, .int .u8 0, .int .u8 0, .int .u8 0, .int .u8 0]) := by kernel_rfl
theorem tA_25 : tyA Try.prog 25 = some (true, 65) := by kernel_rfl
theorem tF_25_0 : tyF Try.prog 25 0 = some (0, false, 1) := by kernel_rfl
theorem tF_25_1 : tyF Try.prog 25 1 = some (1, true, 64) := by kernel_rfl
theorem tZ_25 : tyZ Try.prog 25 = some (.agg (layV 0 (fun _ => 0)).toArray) := by kernel_rfl
theorem tB_25 : tyB Try.prog 25 = some ([(0, 1), (1, 64)], layV 0 (fun _ => 0)) := by kernel_rfl
theorem tA_26 : tyA Try.prog 26 = some (false, 1) := by kernel_rfl
theorem tI_26 : tyI Try.prog 26 = some .u64 := by kernel_rfl
theorem tZ_26 : tyZ Try.prog 26 = some (.int .u64 0) := by kernel_rfl
theorem tA_27 : tyA Try.prog 27 = some (false, 1) := by kernel_rfl
theorem tI_27 : tyI Try.prog 27 = some .u64 := by kernel_rfl
theorem tZ_27 : tyZ Try.prog 27 = some (.int .u64 0) := by kernel_rfl
theorem tA_29 : tyA Try.prog 29 = some (false, 1) := by kernel_rfl
theorem tA_30 : tyA Try.prog 30 = some (true, 65) := by kernel_rfl
theorem tF_30_0 : tyF Try.prog 30 0 = some (0, false, 1) := by kernel_rfl
theorem tF_30_1 : tyF Try.prog 30 1 = some (1, true, 64) := by kernel_rfl
theorem tZ_30 : tyZ Try.prog 30 = some (.agg (layV 0 (fun _ => 0)).toArray) := by kernel_rfl
theorem tB_30 : tyB Try.prog 30 = some ([(0, 1), (1, 64)], layV 0 (fun _ => 0)) := by kernel_rfl
theorem tA_31 : tyA Try.prog 31 = some (false, 1) := by kernel_rfl
theorem tA_32 : tyA Try.prog 32 = some (false, 1) := by kernel_rfl
theorem tA_33 : tyA Try.prog 33 = some (true, 64) := by kernel_rfl
theorem tE_33 : tyE Try.prog 33 = some (64, false, 1) := by kernel_rfl
theorem tZ_33 : tyZ Try.prog 33 = some (.agg (arrU .u8 64 (fun _ => 0)).toArray) := by kernel_rfl
theorem tB_33 : tyB Try.prog 33 = some ([(0, 1), (1, 1), (2, 1), (3, 1), (4, 1), (5, 1), (6, 1), (7, 1), (8, 1), (9, 1), (10, 1), (11, 1), (12, 1), (13, 1), (14, 1), (15, 1), (16, 1), (17, 1), (18, 1), (19, 1), (20, 1), (21, 1), (22, 1), (23, 1), (24, 1), (25, 1), (26, 1), (27, 1), (28, 1), (29, 1), (30, 1), (31, 1), (32, 1), (33, 1), (34, 1), (35, 1), (36, 1), (37, 1), (38, 1), (39, 1), (40, 1), (41, 1), (42, 1), (43, 1), (44, 1), (45, 1), (46, 1), (47, 1), (48, 1), (49, 1), (50, 1), (51, 1), (52, 1), (53, 1), (54, 1), (55, 1), (56, 1), (57, 1), (58, 1), (59, 1), (60, 1), (61, 1), (62, 1), (63, 1)], arrU .u8 64 (fun _ => 0)) := by kernel_rfl
theorem tA_35 : tyA Try.prog 35 = some (false, 1) := by kernel_rfl
theorem tA_36 : tyA Try.prog 36 = some (false, 1) := by kernel_rfl
theorem tA_37 : tyA Try.prog 37 = some (false, 1) := by kernel_rfl
theorem tA_38 : tyA Try.prog 38 = some (false, 1) := by kernel_rfl
theorem tI_38 : tyI Try.prog 38 = some .u32 := by kernel_rfl
theorem tZ_38 : tyZ Try.prog 38 = some (.int .u32 0) := by kernel_rfl
theorem tA_40 : tyA Try.prog 40 = some (false, 1) := by kernel_rfl
theorem tA_41 : tyA Try.prog 41 = some (false, 1) := by kernel_rfl
theorem tA_42 : tyA Try.prog 42 = some (false, 1) := by kernel_rfl
theorem tA_43 : tyA Try.prog 43 = some (false, 1) := by kernel_rfl
theorem tA_45 : tyA Try.prog 45 = some (false, 1) := by kernel_rfl
theorem tA_46 : tyA Try.prog 46 = some (false, 1) := by kernel_rfl
theorem tA_48 : tyA Try.prog 48 = some (false, 1) := by kernel_rfl
theorem tA_49 : tyA Try.prog 49 = some (false, 1) := by kernel_rfl
theorem tA_50 : tyA Try.prog 50 = some (false, 1) := by kernel_rfl
theorem tA_51 : tyA Try.prog 51 = some (true, 3) := by kernel_rfl
theorem tE_51 : tyE Try.prog 51 = some (3, false, 1) := by kernel_rfl
theorem tZ_51 : tyZ Try.prog 51 = some (.agg (arrU .u64 3 (fun _ => 0)).toArray) := by kernel_rfl
theorem tB_51 : tyB Try.prog 51 = some ([(0, 1), (1, 1), (2, 1)], arrU .u64 3 (fun _ => 0)) := by kernel_rfl
theorem tA_52 : tyA Try.prog 52 = some (true, 390) := by kernel_rfl
theorem tE_52 : tyE Try.prog 52 = some (6, true, 65) := by kernel_rfl
theorem tZ_52 : tyZ Try.prog 52 = some (.agg (recV 6 (fun _ => layV 0 (fun _ => 0))).toArray) := by kernel_rfl
theorem tB_52 : tyB Try.prog 52 = some ([(0, 65), (65, 65), (130, 65), (195, 65), (260, 65), (325, 65)], recV 6 (fun _ => layV 0 (fun _ => 0))) := by kernel_rfl
theorem tA_54 : tyA Try.prog 54 = some (false, 1) := by kernel_rfl
theorem tA_55 : tyA Try.prog 55 = some (true, 3) := by kernel_rfl
theorem tE_55 : tyE Try.prog 55 = some (3, false, 1) := by kernel_rfl
theorem tZ_55 : tyZ Try.prog 55 = some (.agg (arrU .u64 3 (fun _ => 0)).toArray) := by kernel_rfl
theorem tB_55 : tyB Try.prog 55 = some ([(0, 1), (1, 1), (2, 1)], arrU .u64 3 (fun _ => 0)) := by kernel_rfl
theorem tA_56 : tyA Try.prog 56 = some (false, 1) := by kernel_rfl
theorem tA_57 : tyA Try.prog 57 = some (false, 1) := by kernel_rfl
theorem tA_58 : tyA Try.prog 58 = some (false, 1) := by kernel_rfl
theorem tA_59 : tyA Try.prog 59 = some (true, 390) := by kernel_rfl
theorem tE_59 : tyE Try.prog 59 = some (6, true, 65) := by kernel_rfl
theorem tZ_59 : tyZ Try.prog 59 = some (.agg (recV 6 (fun _ => layV 0 (fun _ => 0))).toArray) := by kernel_rfl
theorem tB_59 : tyB Try.prog 59 = some ([(0, 65), (65, 65), (130, 65), (195, 65), (260, 65), (325, 65)], recV 6 (fun _ => layV 0 (fun _ => 0))) := by kernel_rfl
theorem tA_61 : tyA Try.prog 61 = some (false, 1) := by kernel_rfl
theorem tA_62 : tyA Try.prog 62 = some (false, 1) := by kernel_rfl
theorem tA_63 : tyA Try.prog 63 = some (false, 1) := by kernel_rfl
theorem tA_64 : tyA Try.prog 64 = some (false, 1) := by kernel_rfl
theorem tA_66 : tyA Try.prog 66 = some (false, 1) := by kernel_rfl
theorem tA_67 : tyA Try.prog 67 = some (false, 1) := by kernel_rfl
theorem tS_67 : tyS Try.prog 67 = some (5, 1, 1) := by kernel_rfl
theorem tZ_67 : tyZ Try.prog 67 = some (.slice none 0 0) := by kernel_rfl
theorem tA_68 : tyA Try.prog 68 = some (false, 1) := by kernel_rfl
theorem tA_69 : tyA Try.prog 69 = some (false, 1) := by kernel_rfl
theorem tA_70 : tyA Try.prog 70 = some (false, 1) := by kernel_rfl
theorem tA_71 : tyA Try.prog 71 = some (true, 9) := by kernel_rfl
theorem tE_71 : tyE Try.prog 71 = some (9, false, 1) := by kernel_rfl
theorem tZ_71 : tyZ Try.prog 71 = some (.agg (arrZ .i64 9 (fun _ => 0)).toArray) := by kernel_rfl
theorem tB_71 : tyB Try.prog 71 = some ([(0, 1), (1, 1), (2, 1), (3, 1), (4, 1), (5, 1), (6, 1), (7, 1), (8, 1)], arrZ .i64 9 (fun _ => 0)) := by kernel_rfl
theorem tA_73 : tyA Try.prog 73 = some (false, 1) := by kernel_rfl
theorem tA_74 : tyA Try.prog 74 = some (false, 1) := by kernel_rfl
theorem tA_75 : tyA Try.prog 75 = some (true, 64) := by kernel_rfl
theorem tE_75 : tyE Try.prog 75 = some (64, false, 1) := by kernel_rfl
theorem tZ_75 : tyZ Try.prog 75 = some (.agg (arrZ .i8 64 (fun _ => 0)).toArray) := by kernel_rfl
theorem tB_75 : tyB Try.prog 75 = some ([(0, 1), (1, 1), (2, 1), (3, 1), (4, 1), (5, 1), (6, 1), (7, 1), (8, 1), (9, 1), (10, 1), (11, 1), (12, 1), (13, 1), (14, 1), (15, 1), (16, 1), (17, 1), (18, 1), (19, 1), (20, 1), (21, 1), (22, 1), (23, 1), (24, 1), (25, 1), (26, 1), (27, 1), (28, 1), (29, 1), (30, 1), (31, 1), (32, 1), (33, 1), (34, 1), (35, 1), (36, 1), (37, 1), (38, 1), (39, 1), (40, 1), (41, 1), (42, 1), (43, 1), (44, 1), (45, 1), (46, 1), (47, 1), (48, 1), (49, 1), (50, 1), (51, 1), (52, 1), (53, 1), (54, 1), (55, 1), (56, 1), (57, 1), (58, 1), (59, 1), (60, 1), (61, 1), (62, 1), (63, 1)], arrZ .i8 64 (fun _ => 0)) := by kernel_rfl
theorem tA_77 : tyA Try.prog 77 = some (false, 1) := by kernel_rfl
theorem tA_78 : tyA Try.prog 78 = some (false, 1) := by kernel_rfl
theorem tA_80 : tyA Try.prog 80 = some (false, 1) := by kernel_rfl
theorem tA_81 : tyA Try.prog 81 = some (false, 1) := by kernel_rfl
theorem tA_82 : tyA Try.prog 82 = some (false, 1) := by kernel_rfl
theorem tA_83 : tyA Try.prog 83 = some (false, 1) := by kernel_rfl
theorem tA_84 : tyA Try.prog 84 = some (true, 4) := by kernel_rfl
theorem tE_84 : tyE Try.prog 84 = some (4, false, 1) := by kernel_rfl
theorem tZ_84 : tyZ Try.prog 84 = some (.agg (arrU .u64 4 (fun _ => 0)).toArray) := by kernel_rfl
theorem tB_84 : tyB Try.prog 84 = some ([(0, 1), (1, 1), (2, 1), (3, 1)], arrU .u64 4 (fun _ => 0)) := by kernel_rfl
theorem tA_86 : tyA Try.prog 86 = some (false, 1) := by kernel_rfl
theorem tA_87 : tyA Try.prog 87 = some (false, 1) := by kernel_rfl
theorem tA_88 : tyA Try.prog 88 = some (false, 1) := by kernel_rfl
theorem tS_88 : tyS Try.prog 88 = some (27, 1, 8) := by kernel_rfl
theorem tZ_88 : tyZ Try.prog 88 = some (.slice none 0 0) := by kernel_rfl
theorem tA_89 : tyA Try.prog 89 = some (false, 1) := by kernel_rfl
theorem tA_90 : tyA Try.prog 90 = some (false, 1) := by kernel_rfl
theorem tA_92 : tyA Try.prog 92 = some (false, 1) := by kernel_rfl
theorem tA_93 : tyA Try.prog 93 = some (false, 1) := by kernel_rfl
theorem tA_94 : tyA Try.prog 94 = some (false, 1) := by kernel_rfl
theorem tA_96 : tyA Try.prog 96 = some (false, 1) := by kernel_rfl
theorem tA_97 : tyA Try.prog 97 = some (false, 1) := by kernel_rfl
theorem tA_98 : tyA Try.prog 98 = some (false, 1) := by kernel_rfl
theorem tA_99 : tyA Try.prog 99 = some (false, 1) := by kernel_rfl
theorem tS_99 : tyS Try.prog 99 = some (30, 65, 65) := by kernel_rfl
theorem tZ_99 : tyZ Try.prog 99 = some (.slice none 0 0) := by kernel_rfl
theorem tA_100 : tyA Try.prog 100 = some (false, 1) := by kernel_rfl
theorem tA_101 : tyA Try.prog 101 = some (false, 1) := by kernel_rfl
theorem tA_102 : tyA Try.prog 102 = some (false, 1) := by kernel_rfl
theorem tA_103 : tyA Try.prog 103 = some (false, 1) := by kernel_rfl
theorem tA_104 : tyA Try.prog 104 = some (false, 1) := by kernel_rfl
theorem tA_105 : tyA Try.prog 105 = some (false, 1) := by kernel_rfl
theorem tA_106 : tyA Try.prog 106 = some (false, 1) := by kernel_rfl
theorem tA_107 : tyA Try.prog 107 = some (false, 1) := by kernel_rfl
theorem tA_108 : tyA Try.prog 108 = some (true, 3) := by kernel_rfl
theorem tF_108_0 : tyF Try.prog 108 0 = some (0, false, 1) := by kernel_rfl
theorem tF_108_1 : tyF Try.prog 108 1 = some (1, false, 1) := by kernel_rfl
theorem tF_108_2 : tyF Try.prog 108 2 = some (2, false, 1) := by kernel_rfl
theorem tZ_108 : tyZ Try.prog 108 = some (.agg ([.int .u32 0, .int .i8 0, .slice none 0 0]).toArray) := by kernel_rfl
theorem tB_108 : tyB Try.prog 108 = some ([(0, 1), (1, 1), (2, 1)], [.int .u32 0, .int .i8 0, .slice none 0 0]) := by kernel_rfl
theorem tA_109 : tyA Try.prog 109 = some (true, 3) := by kernel_rfl
theorem tF_109_0 : tyF Try.prog 109 0 = some (0, false, 1) := by kernel_rfl
theorem tF_109_1 : tyF Try.prog 109 1 = some (1, false, 1) := by kernel_rfl
theorem tF_109_2 : tyF Try.prog 109 2 = some (2, false, 1) := by kernel_rfl
theorem tZ_109 : tyZ Try.prog 109 = some (.agg ([.int .u32 0, .int .i8 0, .slice none 0 0]).toArray) := by kernel_rfl
theorem tB_109 : tyB Try.prog 109 = some ([(0, 1), (1, 1), (2, 1)], [.int .u32 0, .int .i8 0, .slice none 0 0]) := by kernel_rfl
theorem tA_110 : tyA Try.prog 110 = some (false, 1) := by kernel_rfl
theorem tA_111 : tyA Try.prog 111 = some (false, 1) := by kernel_rfl
theorem tA_112 : tyA Try.prog 112 = some (false, 1) := by kernel_rfl
theorem tA_113 : tyA Try.prog 113 = some (false, 1) := by kernel_rfl
theorem tA_114 : tyA Try.prog 114 = some (false, 1) := by kernel_rfl
theorem tA_115 : tyA Try.prog 115 = some (false, 1) := by kernel_rfl
theorem tA_116 : tyA Try.prog 116 = some (false, 1) := by kernel_rfl
theorem tA_117 : tyA Try.prog 117 = some (false, 1) := by kernel_rfl
theorem tA_118 : tyA Try.prog 118 = some (false, 1) := by kernel_rfl
theorem tA_119 : tyA Try.prog 119 = some (false, 1) := by kernel_rfl
theorem tA_120 : tyA Try.prog 120 = some (false, 1) := by kernel_rfl
theorem tA_121 : tyA Try.prog 121 = some (false, 1) := by kernel_rfl
theorem tA_122 : tyA Try.prog 122 = some (false, 1) := by kernel_rfl
theorem tA_123 : tyA Try.prog 123 = some (false, 1) := by kernel_rfl
theorem tA_124 : tyA Try.prog 124 = some (false, 1) := by kernel_rfl
theorem tA_125 : tyA Try.prog 125 = some (false, 1) := by kernel_rfl
theorem tA_126 : tyA Try.prog 126 = some (false, 1) := by kernel_rfl
theorem tA_127 : tyA Try.prog 127 = some (false, 1) := by kernel_rfl
theorem tA_128 : tyA Try.prog 128 = some (false, 1) := by kernel_rfl
theorem tA_129 : tyA Try.prog 129 = some (false, 1) := by kernel_rfl
theorem tA_130 : tyA Try.prog 130 = some (false, 1) := by kernel_rfl
theorem tA_131 : tyA Try.prog 131 = some (false, 1) := by kernel_rfl
theorem tA_132 : tyA Try.prog 132 = some (false, 1) := by kernel_rfl
theorem tA_133 : tyA Try.prog 133 = some (false, 1) := by kernel_rfl
theorem tI_133 : tyI Try.prog 133 = some .u64 := by kernel_rfl
theorem tZ_133 : tyZ Try.prog 133 = some (.int .u64 0) := by kernel_rfl
theorem tA_134 : tyA Try.prog 134 = some (false, 1) := by kernel_rfl
theorem tA_135 : tyA Try.prog 135 = some (false, 1) := by kernel_rfl
theorem tA_136 : tyA Try.prog 136 = some (false, 1) := by kernel_rfl
theorem tS_136 : tyS Try.prog 136 = some (9, 1, 16) := by kernel_rfl
theorem tZ_136 : tyZ Try.prog 136 = some (.slice none 0 0) := by kernel_rfl
theorem tA_137 : tyA Try.prog 137 = some (false, 1) := by kernel_rfl
theorem tA_138 : tyA Try.prog 138 = some (false, 1) := by kernel_rfl
theorem tA_139 : tyA Try.prog 139 = some (false, 1) := by kernel_rfl
theorem tA_140 : tyA Try.prog 140 = some (true, 2) := by kernel_rfl
theorem tF_140_0 : tyF Try.prog 140 0 = some (0, false, 1) := by kernel_rfl
theorem tF_140_1 : tyF Try.prog 140 1 = some (1, false, 1) := by kernel_rfl
theorem tZ_140 : tyZ Try.prog 140 = some (.agg ([.bool false, .int .i64 0]).toArray) := by kernel_rfl
theorem tB_140 : tyB Try.prog 140 = some ([(0, 1), (1, 1)], [.bool false, .int .i64 0]) := by kernel_rfl
theorem tA_141 : tyA Try.prog 141 = some (true, 2) := by kernel_rfl
theorem tF_141_0 : tyF Try.prog 141 0 = some (0, false, 1) := by kernel_rfl
theorem tF_141_1 : tyF Try.prog 141 1 = some (1, false, 1) := by kernel_rfl
theorem tZ_141 : tyZ Try.prog 141 = some (.agg ([.bool false, .int .i64 0]).toArray) := by kernel_rfl
theorem tB_141 : tyB Try.prog 141 = some ([(0, 1), (1, 1)], [.bool false, .int .i64 0]) := by kernel_rfl
theorem tA_142 : tyA Try.prog 142 = some (false, 1) := by kernel_rfl
theorem tA_143 : tyA Try.prog 143 = some (false, 1) := by kernel_rfl
theorem tS_143 : tyS Try.prog 143 = some (22, 1, 1) := by kernel_rfl
theorem tZ_143 : tyZ Try.prog 143 = some (.slice none 0 0) := by kernel_rfl
theorem tA_145 : tyA Try.prog 145 = some (false, 1) := by kernel_rfl
theorem tA_146 : tyA Try.prog 146 = some (false, 1) := by kernel_rfl
theorem tA_147 : tyA Try.prog 147 = some (false, 1) := by kernel_rfl
theorem tA_148 : tyA Try.prog 148 = some (false, 1) := by kernel_rfl
theorem tA_149 : tyA Try.prog 149 = some (false, 1) := by kernel_rfl
theorem tA_150 : tyA Try.prog 150 = some (false, 1) := by kernel_rfl
theorem tA_151 : tyA Try.prog 151 = some (true, 8) := by kernel_rfl
theorem tE_151 : tyE Try.prog 151 = some (8, false, 1) := by kernel_rfl
theorem tZ_151 : tyZ Try.prog 151 = some (.agg (arrU .u8 8 (fun _ => 0)).toArray) := by kernel_rfl
theorem tB_151 : tyB Try.prog 151 = some ([(0, 1), (1, 1), (2, 1), (3, 1), (4, 1), (5, 1), (6, 1), (7, 1)], arrU .u8 8 (fun _ => 0)) := by kernel_rfl
theorem tA_152 : tyA Try.prog 152 = some (true, 2) := by kernel_rfl
theorem tE_152 : tyE Try.prog 152 = some (2, false, 1) := by kernel_rfl
theorem tZ_152 : tyZ Try.prog 152 = some (.agg (arrU .u8 2 (fun _ => 0)).toArray) := by kernel_rfl
theorem tB_152 : tyB Try.prog 152 = some ([(0, 1), (1, 1)], arrU .u8 2 (fun _ => 0)) := by kernel_rfl
theorem tA_153 : tyA Try.prog 153 = some (true, 16) := by kernel_rfl
theorem tE_153 : tyE Try.prog 153 = some (8, true, 2) := by kernel_rfl
theorem tZ_153 : tyZ Try.prog 153 = some (.agg ([.int .u8 0, .int .u8 0, .int .u8 0, .int .u8 0, .int .u8 0, .int .u8 0, .int .u8 0, .int .u8 0, .int .u8 0, .int .u8 0, .int .u8 0, .int .u8 0, .int .u8 0, .int .u8 0, .int .u8 0, .int .u8 0]).toArray) := by kernel_rfl
theorem tB_153 : tyB Try.prog 153 = some ([(0, 2), (2, 2), (4, 2), (6, 2), (8, 2), (10, 2), (12, 2), (14, 2)], [.int .u8 0, .int .u8 0, .int .u8 0, .int .u8 0, .int .u8 0, .int .u8 0, .int .u8 0, .int .u8 0, .int .u8 0, .int .u8 0, .int .u8 0, .int .u8 0, .int .u8 0, .int .u8 0, .int .u8 0, .int .u8 0]) := by kernel_rfl
theorem tA_154 : tyA Try.prog 154 = some (false, 1) := by kernel_rfl
theorem tS_154 : tyS Try.prog 154 = some (4, 1, 1) := by kernel_rfl
theorem tZ_154 : tyZ Try.prog 154 = some (.slice none 0 0) := by kernel_rfl
theorem tA_155 : tyA Try.prog 155 = some (false, 1) := by kernel_rfl
theorem tA_156 : tyA Try.prog 156 = some (false, 1) := by kernel_rfl
theorem tA_157 : tyA Try.prog 157 = some (false, 1) := by kernel_rfl
theorem tA_158 : tyA Try.prog 158 = some (false, 1) := by kernel_rfl
theorem tA_159 : tyA Try.prog 159 = some (false, 1) := by kernel_rfl
theorem tA_160 : tyA Try.prog 160 = some (false, 1) := by kernel_rfl
theorem tA_161 : tyA Try.prog 161 = some (true, 3) := by kernel_rfl
theorem tF_161_0 : tyF Try.prog 161 0 = some (0, false, 1) := by kernel_rfl
theorem tF_161_1 : tyF Try.prog 161 1 = some (1, false, 1) := by kernel_rfl
theorem tF_161_2 : tyF Try.prog 161 2 = some (2, false, 1) := by kernel_rfl
theorem tZ_161 : tyZ Try.prog 161 = some (.agg ([.slice none 0 0, .int .i64 0, .int .u64 0]).toArray) := by kernel_rfl
theorem tB_161 : tyB Try.prog 161 = some ([(0, 1), (1, 1), (2, 1)], [.slice none 0 0, .int .i64 0, .int .u64 0]) := by kernel_rfl
theorem tA_162 : tyA Try.prog 162 = some (true, 3) := by kernel_rfl
theorem tF_162_0 : tyF Try.prog 162 0 = some (0, false, 1) := by kernel_rfl
theorem tF_162_1 : tyF Try.prog 162 1 = some (1, false, 1) := by kernel_rfl
theorem tF_162_2 : tyF Try.prog 162 2 = some (2, false, 1) := by kernel_rfl
theorem tZ_162 : tyZ Try.prog 162 = some (.agg ([.slice none 0 0, .int .i64 0, .int .u64 0]).toArray) := by kernel_rfl
theorem tB_162 : tyB Try.prog 162 = some ([(0, 1), (1, 1), (2, 1)], [.slice none 0 0, .int .i64 0, .int .u64 0]) := by kernel_rfl
theorem tA_163 : tyA Try.prog 163 = some (false, 1) := by kernel_rfl
theorem tA_164 : tyA Try.prog 164 = some (false, 1) := by kernel_rfl
theorem tA_165 : tyA Try.prog 165 = some (false, 1) := by kernel_rfl
theorem tA_166 : tyA Try.prog 166 = some (false, 1) := by kernel_rfl
theorem tA_167 : tyA Try.prog 167 = some (false, 1) := by kernel_rfl
theorem tS_167 : tyS Try.prog 167 = some (141, 2, 16) := by kernel_rfl
theorem tZ_167 : tyZ Try.prog 167 = some (.slice none 0 0) := by kernel_rfl
theorem tA_169 : tyA Try.prog 169 = some (false, 1) := by kernel_rfl
theorem tA_171 : tyA Try.prog 171 = some (false, 1) := by kernel_rfl
theorem tA_172 : tyA Try.prog 172 = some (false, 1) := by kernel_rfl
theorem tA_173 : tyA Try.prog 173 = some (false, 1) := by kernel_rfl
theorem tA_174 : tyA Try.prog 174 = some (false, 1) := by kernel_rfl
theorem tA_176 : tyA Try.prog 176 = some (false, 1) := by kernel_rfl
theorem tA_178 : tyA Try.prog 178 = some (false, 1) := by kernel_rfl
theorem tA_179 : tyA Try.prog 179 = some (false, 1) := by kernel_rfl
theorem tA_180 : tyA Try.prog 180 = some (false, 1) := by kernel_rfl
theorem tA_181 : tyA Try.prog 181 = some (false, 1) := by kernel_rfl
theorem tA_182 : tyA Try.prog 182 = some (false, 1) := by kernel_rfl
theorem tA_183 : tyA Try.prog 183 = some (false, 1) := by kernel_rfl
theorem tI_183 : tyI Try.prog 183 = some .i64 := by kernel_rfl
theorem tZ_183 : tyZ Try.prog 183 = some (.int .i64 0) := by kernel_rfl
theorem tA_185 : tyA Try.prog 185 = some (false, 1) := by kernel_rfl
theorem tA_186 : tyA Try.prog 186 = some (false, 1) := by kernel_rfl
theorem tA_187 : tyA Try.prog 187 = some (false, 1) := by kernel_rfl
theorem tA_188 : tyA Try.prog 188 = some (false, 1) := by kernel_rfl
theorem tA_190 : tyA Try.prog 190 = some (false, 1) := by kernel_rfl
theorem tA_191 : tyA Try.prog 191 = some (false, 1) := by kernel_rfl
theorem tA_192 : tyA Try.prog 192 = some (false, 1) := by kernel_rfl
theorem tA_193 : tyA Try.prog 193 = some (false, 1) := by kernel_rfl
theorem tI_193 : tyI Try.prog 193 = some .u64 := by kernel_rfl
theorem tZ_193 : tyZ Try.prog 193 = some (.int .u64 0) := by kernel_rfl
theorem tA_194 : tyA Try.prog 194 = some (false, 1) := by kernel_rfl
theorem tA_195 : tyA Try.prog 195 = some (false, 1) := by kernel_rfl
theorem tA_196 : tyA Try.prog 196 = some (false, 1) := by kernel_rfl
theorem tA_197 : tyA Try.prog 197 = some (false, 1) := by kernel_rfl
theorem tA_198 : tyA Try.prog 198 = some (false, 1) := by kernel_rfl
theorem tA_199 : tyA Try.prog 199 = some (false, 1) := by kernel_rfl
theorem tA_201 : tyA Try.prog 201 = some (false, 1) := by kernel_rfl
theorem tA_202 : tyA Try.prog 202 = some (false, 1) := by kernel_rfl
theorem tA_208 : tyA Try.prog 208 = some (false, 1) := by kernel_rfl
theorem tA_211 : tyA Try.prog 211 = some (false, 1) := by kernel_rfl
theorem tA_212 : tyA Try.prog 212 = some (false, 1) := by kernel_rfl
theorem en_3 : entB Try.prog 3 = true := by kernel_rfl
theorem en_4 : entB Try.prog 4 = true := by kernel_rfl
theorem en_5 : entB Try.prog 5 = true := by kernel_rfl
theorem en_6 : entB Try.prog 6 = true := by kernel_rfl
theorem en_7 : entB Try.prog 7 = true := by kernel_rfl
theorem en_8 : entB Try.prog 8 = true := by kernel_rfl
theorem en_9 : entB Try.prog 9 = true := by kernel_rfl
theorem en_10 : entB Try.prog 10 = true := by kernel_rfl
theorem en_11 : entB Try.prog 11 = true := by kernel_rfl
theorem en_12 : entB Try.prog 12 = true := by kernel_rfl
theorem en_13 : entB Try.prog 13 = true := by kernel_rfl
theorem en_14 : entB Try.prog 14 = true := by kernel_rfl
theorem en_15 : entB Try.prog 15 = true := by kernel_rfl
theorem en_16 : entB Try.prog 16 = true := by kernel_rfl
theorem en_17 : entB Try.prog 17 = true := by kernel_rfl
theorem en_18 : entB Try.prog 18 = true := by kernel_rfl
theorem en_19 : entB Try.prog 19 = true := by kernel_rfl
theorem en_20 : entB Try.prog 20 = true := by kernel_rfl
theorem en_21 : entB Try.prog 21 = true := by kernel_rfl
theorem en_22 : entB Try.prog 22 = true := by kernel_rfl
theorem en_23 : entB Try.prog 23 = true := by kernel_rfl
theorem en_24 : entB Try.prog 24 = true := by kernel_rfl
theorem en_25 : entB Try.prog 25 = true := by kernel_rfl
theorem en_26 : entB Try.prog 26 = true := by kernel_rfl
theorem en_27 : entB Try.prog 27 = true := by kernel_rfl
theorem en_28 : entB Try.prog 28 = true := by kernel_rfl
theorem en_29 : entB Try.prog 29 = true := by kernel_rfl
theorem en_30 : entB Try.prog 30 = true := by kernel_rfl
theorem en_31 : entB Try.prog 31 = true := by kernel_rfl
theorem en_32 : entB Try.prog 32 = true := by kernel_rfl
theorem en_33 : entB Try.prog 33 = true := by kernel_rfl
theorem en_34 : entB Try.prog 34 = true := by kernel_rfl
theorem en_35 : entB Try.prog 35 = true := by kernel_rfl
theorem en_36 : entB Try.prog 36 = true := by kernel_rfl
theorem en_37 : entB Try.prog 37 = true := by kernel_rfl
theorem en_38 : entB Try.prog 38 = true := by kernel_rfl
theorem en_39 : entB Try.prog 39 = true := by kernel_rfl
theorem en_40 : entB Try.prog 40 = true := by kernel_rfl
theorem en_41 : entB Try.prog 41 = true := by kernel_rfl
theorem en_42 : entB Try.prog 42 = true := by kernel_rfl
theorem en_43 : entB Try.prog 43 = true := by kernel_rfl
theorem en_44 : entB Try.prog 44 = true := by kernel_rfl
theorem en_45 : entB Try.prog 45 = true := by kernel_rfl
theorem en_46 : entB Try.prog 46 = true := by kernel_rfl
theorem en_47 : entB Try.prog 47 = true := by kernel_rfl
theorem en_48 : entB Try.prog 48 = true := by kernel_rfl
theorem en_49 : entB Try.prog 49 = true := by kernel_rfl
theorem en_50 : entB Try.prog 50 = true := by kernel_rfl
theorem en_51 : entB Try.prog 51 = true := by kernel_rfl
theorem en_52 : entB Try.prog 52 = true := by kernel_rfl
theorem en_53 : entB Try.prog 53 = true := by kernel_rfl
theorem en_54 : entB Try.prog 54 = true := by kernel_rfl
theorem en_55 : entB Try.prog 55 = true := by kernel_rfl
theorem en_56 : entB Try.prog 56 = true := by kernel_rfl
theorem en_57 : entB Try.prog 57 = true := by kernel_rfl
theorem en_58 : entB Try.prog 58 = true := by kernel_rfl
theorem en_59 : entB Try.prog 59 = true := by kernel_rfl
theorem en_60 : entB Try.prog 60 = true := by kernel_rfl
theorem en_61 : entB Try.prog 61 = true := by kernel_rfl
theorem en_62 : entB Try.prog 62 = true := by kernel_rfl
theorem en_63 : entB Try.prog 63 = true := by kernel_rfl
theorem en_64 : entB Try.prog 64 = true := by kernel_rfl
theorem en_65 : entB Try.prog 65 = true := by kernel_rfl
theorem en_66 : entB Try.prog 66 = true := by kernel_rfl
theorem en_67 : entB Try.prog 67 = true := by kernel_rfl
theorem en_68 : entB Try.prog 68 = true := by kernel_rfl
theorem en_69 : entB Try.prog 69 = true := by kernel_rfl
theorem en_70 : entB Try.prog 70 = true := by kernel_rfl
theorem en_71 : entB Try.prog 71 = true := by kernel_rfl
theorem en_72 : entB Try.prog 72 = true := by kernel_rfl
theorem en_73 : entB Try.prog 73 = true := by kernel_rfl
theorem en_74 : entB Try.prog 74 = true := by kernel_rfl
theorem en_75 : entB Try.prog 75 = true := by kernel_rfl
theorem en_76 : entB Try.prog 76 = true := by kernel_rfl
theorem en_77 : entB Try.prog 77 = true := by kernel_rfl
theorem en_78 : entB Try.prog 78 = true := by kernel_rfl
theorem en_79 : entB Try.prog 79 = true := by kernel_rfl
theorem en_80 : entB Try.prog 80 = true := by kernel_rfl
theorem en_81 : entB Try.prog 81 = true := by kernel_rfl
theorem en_82 : entB Try.prog 82 = true := by kernel_rfl
theorem en_83 : entB Try.prog 83 = true := by kernel_rfl
theorem en_84 : entB Try.prog 84 = true := by kernel_rfl
theorem en_85 : entB Try.prog 85 = true := by kernel_rfl
theorem en_86 : entB Try.prog 86 = true := by kernel_rfl
theorem en_87 : entB Try.prog 87 = true := by kernel_rfl
theorem en_88 : entB Try.prog 88 = true := by kernel_rfl
theorem en_89 : entB Try.prog 89 = true := by kernel_rfl
theorem en_90 : entB Try.prog 90 = true := by kernel_rfl
theorem en_91 : entB Try.prog 91 = true := by kernel_rfl
theorem en_92 : entB Try.prog 92 = true := by kernel_rfl
theorem en_93 : entB Try.prog 93 = true := by kernel_rfl
theorem en_94 : entB Try.prog 94 = true := by kernel_rfl
theorem en_95 : entB Try.prog 95 = true := by kernel_rfl
theorem en_96 : entB Try.prog 96 = true := by kernel_rfl
theorem en_97 : entB Try.prog 97 = true := by kernel_rfl
theorem en_98 : entB Try.prog 98 = true := by kernel_rfl
theorem en_99 : entB Try.prog 99 = true := by kernel_rfl
theorem en_100 : entB Try.prog 100 = true := by kernel_rfl
theorem en_101 : entB Try.prog 101 = true := by kernel_rfl
theorem en_102 : entB Try.prog 102 = true := by kernel_rfl
theorem en_103 : entB Try.prog 103 = true := by kernel_rfl
theorem en_104 : entB Try.prog 104 = true := by kernel_rfl
theorem en_105 : entB Try.prog 105 = true := by kernel_rfl
theorem en_106 : entB Try.prog 106 = true := by kernel_rfl
theorem en_107 : entB Try.prog 107 = true := by kernel_rfl
theorem en_108 : entB Try.prog 108 = true := by kernel_rfl
theorem en_109 : entB Try.prog 109 = true := by kernel_rfl
theorem en_110 : entB Try.prog 110 = true := by kernel_rfl
theorem en_111 : entB Try.prog 111 = true := by kernel_rfl
theorem en_112 : entB Try.prog 112 = true := by kernel_rfl
theorem en_113 : entB Try.prog 113 = true := by kernel_rfl
theorem en_114 : entB Try.prog 114 = true := by kernel_rfl
theorem en_115 : entB Try.prog 115 = true := by kernel_rfl
theorem en_116 : entB Try.prog 116 = true := by kernel_rfl
theorem en_117 : entB Try.prog 117 = true := by kernel_rfl
theorem en_118 : entB Try.prog 118 = true := by kernel_rfl
theorem en_119 : entB Try.prog 119 = true := by kernel_rfl
theorem en_120 : entB Try.prog 120 = true := by kernel_rfl
theorem en_121 : entB Try.prog 121 = true := by kernel_rfl
theorem en_122 : entB Try.prog 122 = true := by kernel_rfl
theorem en_123 : entB Try.prog 123 = true := by kernel_rfl
theorem en_124 : entB Try.prog 124 = true := by kernel_rfl
theorem en_125 : entB Try.prog 125 = true := by kernel_rfl
theorem en_126 : entB Try.prog 126 = true := by kernel_rfl
theorem en_127 : entB Try.prog 127 = true := by kernel_rfl
theorem en_128 : entB Try.prog 128 = true := by kernel_rfl
theorem en_129 : entB Try.prog 129 = true := by kernel_rfl
theorem en_130 : entB Try.prog 130 = true := by kernel_rfl
theorem en_131 : entB Try.prog 131 = true := by kernel_rfl
theorem en_132 : entB Try.prog 132 = true := by kernel_rfl
theorem en_133 : entB Try.prog 133 = true := by kernel_rfl
theorem en_134 : entB Try.prog 134 = true := by kernel_rfl
theorem en_135 : entB Try.prog 135 = true := by kernel_rfl
theorem en_136 : entB Try.prog 136 = true := by kernel_rfl
theorem en_137 : entB Try.prog 137 = true := by kernel_rfl
theorem en_138 : entB Try.prog 138 = true := by kernel_rfl
theorem en_139 : entB Try.prog 139 = true := by kernel_rfl
theorem en_140 : entB Try.prog 140 = true := by kernel_rfl
theorem en_141 : entB Try.prog 141 = true := by kernel_rfl
theorem en_142 : entB Try.prog 142 = true := by kernel_rfl
theorem en_143 : entB Try.prog 143 = true := by kernel_rfl
theorem en_144 : entB Try.prog 144 = true := by kernel_rfl
theorem en_145 : entB Try.prog 145 = true := by kernel_rfl
theorem en_146 : entB Try.prog 146 = true := by kernel_rfl
theorem en_147 : entB Try.prog 147 = true := by kernel_rfl
theorem en_148 : entB Try.prog 148 = true := by kernel_rfl
theorem en_149 : entB Try.prog 149 = true := by kernel_rfl
theorem en_150 : entB Try.prog 150 = true := by kernel_rfl
theorem en_151 : entB Try.prog 151 = true := by kernel_rfl
theorem en_152 : entB Try.prog 152 = true := by kernel_rfl
theorem en_153 : entB Try.prog 153 = true := by kernel_rfl
theorem en_154 : entB Try.prog 154 = true := by kernel_rfl
theorem en_155 : entB Try.prog 155 = true := by kernel_rfl
theorem en_156 : entB Try.prog 156 = true := by kernel_rfl
theorem en_157 : entB Try.prog 157 = true := by kernel_rfl
theorem en_158 : entB Try.prog 158 = true := by kernel_rfl
theorem en_159 : entB Try.prog 159 = true := by kernel_rfl
end Go.Proofs.Ytajkjhjnbfcpfaa
