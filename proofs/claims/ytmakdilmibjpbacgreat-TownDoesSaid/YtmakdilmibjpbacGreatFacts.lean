/- Closed facts of the tables of this program. -/
import Derived.Test.YtmakdilmibjpbacGreatRows
import Derived.Test.YtmakdilmibjpbacGreatFun
import Derived.KernelRfl
namespace Go.Proofs.YtmakdilmibjpbacGreat
open Go
theorem cf_10 : cfB Tryz.prog 10 = true := by kernel_rfl
theorem cf_100 : cfB Tryz.prog 100 = true := by kernel_rfl
theorem cf_101 : cfB Tryz.prog 101 = true := by kernel_rfl
theorem cf_102 : cfB Tryz.prog 102 = true := by kernel_rfl
theorem cf_103 : cfB Tryz.prog 103 = true := by kernel_rfl
theorem cf_104 : cfB Tryz.prog 104 = true := by kernel_rfl
theorem cf_105 : cfB Tryz.prog 105 = true := by kernel_rfl
theorem cf_106 : cfB Tryz.prog 106 = true := by kernel_rfl
theorem cf_107 : cfB Tryz.prog 107 = true := by kernel_rfl
theorem cf_108 : cfB Tryz.prog 108 = true := by kernel_rfl
theorem cf_109 : cfB Tryz.prog 109 = true := by kernel_rfl
theorem cf_11 : cfB Tryz.prog 11 = true := by kernel_rfl
theorem cf_110 : cfB Tryz.prog 110 = true := by kernel_rfl
theorem cf_111 : cfB Tryz.prog 111 = true := by kernel_rfl
theorem cf_112 : cfB Tryz.prog 112 = true := by kernel_rfl
theorem cf_113 : cfB Tryz.prog 113 = true := by kernel_rfl
theorem cf_114 : cfB Tryz.prog 114 = true := by kernel_rfl
theorem cf_115 : cfB Tryz.prog 115 = true := by kernel_rfl
theorem cf_116 : cfB Tryz.prog 116 = true := by kernel_rfl
theorem cf_117 : cfB Tryz.prog 117 = true := by kernel_rfl
theorem cf_118 : cfB Tryz.prog 118 = true := by kernel_rfl
theorem cf_12 : cfB Tryz.prog 12 = true := by kernel_rfl
theorem cf_13 : cfB Tryz.prog 13 = true := by kernel_rfl
theorem cf_14 : cfB Tryz.prog 14 = true := by kernel_rfl
theorem cf_15 : cfB Tryz.prog 15 = true := by kernel_rfl
theorem cf_16 : cfB Tryz.prog 16 = true := by kernel_rfl
theorem cf_17 : cfB Tryz.prog 17 = true := by kernel_rfl
theorem cf_18 : cfB Tryz.prog 18 = true := by kernel_rfl
theorem cf_19 : cfB Tryz.prog 19 = true := by kernel_rfl
theorem cf_20 : cfB Tryz.prog 20 = true := by kernel_rfl
theorem cf_21 : cfB Tryz.prog 21 = true := by kernel_rfl
theorem cf_22 : cfB Tryz.prog 22 = true := by kernel_rfl
theorem cf_23 : cfB Tryz.prog 23 = true := by kernel_rfl
theorem cf_24 : cfB Tryz.prog 24 = true := by kernel_rfl
theorem cf_25 : cfB Tryz.prog 25 = true := by kernel_rfl
theorem cf_26 : cfB Tryz.prog 26 = true := by kernel_rfl
theorem cf_27 : cfB Tryz.prog 27 = true := by kernel_rfl
theorem cf_28 : cfB Tryz.prog 28 = true := by kernel_rfl
theorem cf_29 : cfB Tryz.prog 29 = true := by kernel_rfl
theorem cf_30 : cfB Tryz.prog 30 = true := by kernel_rfl
theorem cf_31 : cfB Tryz.prog 31 = true := by kernel_rfl
theorem cf_32 : cfB Tryz.prog 32 = true := by kernel_rfl
theorem cf_33 : cfB Tryz.prog 33 = true := by kernel_rfl
theorem cf_34 : cfB Tryz.prog 34 = true := by kernel_rfl
theorem cf_35 : cfB Tryz.prog 35 = true := by kernel_rfl
theorem cf_36 : cfB Tryz.prog 36 = true := by kernel_rfl
theorem cf_37 : cfB Tryz.prog 37 = true := by kernel_rfl
theorem cf_38 : cfB Tryz.prog 38 = true := by kernel_rfl
theorem cf_39 : cfB Tryz.prog 39 = true := by kernel_rfl
theorem cf_4 : cfB Tryz.prog 4 = true := by kernel_rfl
theorem cf_40 : cfB Tryz.prog 40 = true := by kernel_rfl
theorem cf_41 : cfB Tryz.prog 41 = true := by kernel_rfl
theorem cf_42 : cfB Tryz.prog 42 = true := by kernel_rfl
theorem cf_43 : cfB Tryz.prog 43 = true := by kernel_rfl
theorem cf_44 : cfB Tryz.prog 44 = true := by kernel_rfl
theorem cf_45 : cfB Tryz.prog 45 = true := by kernel_rfl
theorem cf_46 : cfB Tryz.prog 46 = true := by kernel_rfl
theorem cf_47 : cfB Tryz.prog 47 = true := by kernel_rfl
theorem cf_48 : cfB Tryz.prog 48 = true := by kernel_rfl
theorem cf_49 : cfB Tryz.prog 49 = true := by kernel_rfl
theorem cf_5 : cfB Tryz.prog 5 = true := by kernel_rfl
theorem cf_50 : cfB Tryz.prog 50 = true := by kernel_rfl
theorem cf_51 : cfB Tryz.prog 51 = true := by kernel_rfl
theorem cf_52 : cfB Tryz.prog 52 = true := by kernel_rfl
theorem cf_53 : cfB Tryz.prog 53 = true := by kernel_rfl
theorem cf_54 : cfB Tryz.prog 54 = true := by kernel_rfl
theorem cf_55 : cfB Tryz.prog 55 = true := by kernel_rfl
theorem cf_56 : cfB Tryz.prog 56 = true := by kernel_rfl
theorem cf_57 : cfB Tryz.prog 57 = true := by kernel_rfl
theorem cf_58 : cfB Tryz.prog 58 = true := by kernel_rfl
theorem cf_59 : cfB Tryz.prog 59 = true := by kernel_rfl
theorem cf_6 : cfB Tryz.prog 6 = true := by kernel_rfl
theorem cf_60 : cfB Tryz.prog 60 = true := by kernel_rfl
theorem cf_61 : cfB Tryz.prog 61 = true := by kernel_rfl
theorem cf_62 : cfB Tryz.prog 62 = true := by kernel_rfl
theorem cf_63 : cfB Tryz.prog 63 = true := by kernel_rfl
theorem cf_64 : cfB Tryz.prog 64 = true := by kernel_rfl
theorem cf_65 : cfB Tryz.prog 65 = true := by kernel_rfl
theorem cf_66 : cfB Tryz.prog 66 = true := by kernel_rfl
theorem cf_67 : cfB Tryz.prog 67 = true := by kernel_rfl
theorem cf_68 : cfB Tryz.prog 68 = true := by kernel_rfl
theorem cf_69 : cfB Tryz.prog 69 = true := by kernel_rfl
theorem cf_7 : cfB Tryz.prog 7 = true := by kernel_rfl
theorem cf_70 : cfB Tryz.prog 70 = true := by kernel_rfl
theorem cf_71 : cfB Tryz.prog 71 = true := by kernel_rfl
theorem cf_72 : cfB Tryz.prog 72 = true := by kernel_rfl
theorem cf_73 : cfB Tryz.prog 73 = true := by kernel_rfl
theorem cf_74 : cfB Tryz.prog 74 = true := by kernel_rfl
theorem cf_75 : cfB Tryz.prog 75 = true := by kernel_rfl
theorem cf_76 : cfB Tryz.prog 76 = true := by kernel_rfl
theorem cf_77 : cfB Tryz.prog 77 = true := by kernel_rfl
theorem cf_78 : cfB Tryz.prog 78 = true := by kernel_rfl
theorem cf_79 : cfB Tryz.prog 79 = true := by kernel_rfl
theorem cf_8 : cfB Tryz.prog 8 = true := by kernel_rfl
theorem cf_80 : cfB Tryz.prog 80 = true := by kernel_rfl
theorem cf_81 : cfB Tryz.prog 81 = true := by kernel_rfl
theorem cf_82 : cfB Tryz.prog 82 = true := by kernel_rfl
theorem cf_83 : cfB Tryz.prog 83 = true := by kernel_rfl
theorem cf_84 : cfB Tryz.prog 84 = true := by kernel_rfl
theorem cf_85 : cfB Tryz.prog 85 = true := by kernel_rfl
theorem cf_86 : cfB Tryz.prog 86 = true := by kernel_rfl
theorem cf_87 : cfB Tryz.prog 87 = true := by kernel_rfl
theorem cf_88 : cfB Tryz.prog 88 = true := by kernel_rfl
theorem cf_89 : cfB Tryz.prog 89 = true := by kernel_rfl
theorem cf_9 : cfB Tryz.prog 9 = true := by kernel_rfl
theorem cf_90 : cfB Tryz.prog 90 = true := by kernel_rfl
theorem cf_91 : cfB Tryz.prog 91 = true := by kernel_rfl
theorem cf_92 : cfB Tryz.prog 92 = true := by kernel_rfl
theorem cf_93 : cfB Tryz.prog 93 = true := by kernel_rfl
theorem cf_94 : cfB Tryz.prog 94 = true := by kernel_rfl
theorem cf_95 : cfB Tryz.prog 95 = true := by kernel_rfl
theorem cf_96 : cfB Tryz.prog 96 = true := by kernel_rfl
theorem cf_97 : cfB Tryz.prog 97 = true := by kernel_rfl
theorem cf_98 : cfB Tryz.prog 98 = true := by kernel_rfl
theorem cf_99 : cfB Tryz.prog 99 = true := by kernel_rfl
theorem el_106 : EL Tryz.prog 106 4 80 := elB.EL (by kernel_rfl)
theorem el_113 : EL Tryz.prog 113 1 8 := elB.EL (by kernel_rfl)
theorem el_133 : EL Tryz.prog 133 5 40 := elB.EL (by kernel_rfl)
theorem el_139 : EL Tryz.prog 139 3 24 := elB.EL (by kernel_rfl)
theorem el_162 : EL Tryz.prog 162 2 16 := elB.EL (by kernel_rfl)
theorem el_3 : EL Tryz.prog 3 1 8 := elB.EL (by kernel_rfl)
theorem el_4 : EL Tryz.prog 4 1 1 := elB.EL (by kernel_rfl)
theorem el_42 : EL Tryz.prog 42 2 16 := elB.EL (by kernel_rfl)
theorem el_72 : EL Tryz.prog 72 6 48 := elB.EL (by kernel_rfl)
theorem fa_106_0 : faB Tryz.prog 106 0 0 = true := by kernel_rfl
theorem fa_106_1 : faB Tryz.prog 106 1 1 = true := by kernel_rfl
theorem fa_106_2 : faB Tryz.prog 106 2 2 = true := by kernel_rfl
theorem fa_106_3 : faB Tryz.prog 106 3 3 = true := by kernel_rfl
theorem fa_109_0 : faB Tryz.prog 109 0 0 = true := by kernel_rfl
theorem fa_109_1 : faB Tryz.prog 109 1 1 = true := by kernel_rfl
theorem fa_112_0 : faB Tryz.prog 112 0 0 = true := by kernel_rfl
theorem fa_112_1 : faB Tryz.prog 112 1 1 = true := by kernel_rfl
theorem fa_112_2 : faB Tryz.prog 112 2 2 = true := by kernel_rfl
theorem fa_112_3 : faB Tryz.prog 112 3 3 = true := by kernel_rfl
theorem fa_117_0 : faB Tryz.prog 117 0 0 = true := by kernel_rfl
theorem fa_133_0 : faB Tryz.prog 133 0 0 = true := by kernel_rfl
theorem fa_133_1 : faB Tryz.prog 133 1 1 = true := by kernel_rfl
theorem fa_133_2 : faB Tryz.prog 133 2 2 = true := by kernel_rfl
theorem fa_133_3 : faB Tryz.prog 133 3 3 = true := by kernel_rfl
theorem fa_133_4 : faB Tryz.prog 133 4 4 = true := by kernel_rfl
theorem fa_137_0 : faB Tryz.prog 137 0 0 = true := by kernel_rfl
theorem fa_137_1 : faB Tryz.prog 137 1 1 = true := by kernel_rfl
theorem fa_137_2 : faB Tryz.prog 137 2 7 = true := by kernel_rfl
theorem fa_137_3 : faB Tryz.prog 137 3 8 = true := by kernel_rfl
theorem fa_139_0 : faB Tryz.prog 139 0 0 = true := by kernel_rfl
theorem fa_139_1 : faB Tryz.prog 139 1 1 = true := by kernel_rfl
theorem fa_139_2 : faB Tryz.prog 139 2 2 = true := by kernel_rfl
theorem fa_162_0 : faB Tryz.prog 162 0 0 = true := by kernel_rfl
theorem fa_162_1 : faB Tryz.prog 162 1 1 = true := by kernel_rfl
theorem fa_34_0 : faB Tryz.prog 34 0 0 = true := by kernel_rfl
theorem fa_34_1 : faB Tryz.prog 34 1 1 = true := by kernel_rfl
theorem fa_34_2 : faB Tryz.prog 34 2 2 = true := by kernel_rfl
theorem fa_42_0 : faB Tryz.prog 42 0 0 = true := by kernel_rfl
theorem fa_42_1 : faB Tryz.prog 42 1 1 = true := by kernel_rfl
theorem fa_51_0 : faB Tryz.prog 51 0 0 = true := by kernel_rfl
theorem fa_51_1 : faB Tryz.prog 51 1 1 = true := by kernel_rfl
theorem fa_51_2 : faB Tryz.prog 51 2 7 = true := by kernel_rfl
theorem fa_51_3 : faB Tryz.prog 51 3 10 = true := by kernel_rfl
theorem fa_59_0 : faB Tryz.prog 59 0 0 = true := by kernel_rfl
theorem fa_59_1 : faB Tryz.prog 59 1 1 = true := by kernel_rfl
theorem fa_64_0 : faB Tryz.prog 64 0 0 = true := by kernel_rfl
theorem fa_64_1 : faB Tryz.prog 64 1 2 = true := by kernel_rfl
theorem fa_64_2 : faB Tryz.prog 64 2 8 = true := by kernel_rfl
theorem fa_64_3 : faB Tryz.prog 64 3 11 = true := by kernel_rfl
theorem fa_70_0 : faB Tryz.prog 70 0 0 = true := by kernel_rfl
theorem fa_70_1 : faB Tryz.prog 70 1 1 = true := by kernel_rfl
theorem fa_72_0 : faB Tryz.prog 72 0 0 = true := by kernel_rfl
theorem fa_72_1 : faB Tryz.prog 72 1 1 = true := by kernel_rfl
theorem fa_72_2 : faB Tryz.prog 72 2 2 = true := by kernel_rfl
theorem fa_72_3 : faB Tryz.prog 72 3 3 = true := by kernel_rfl
theorem fa_72_4 : faB Tryz.prog 72 4 5 = true := by kernel_rfl
theorem fa_78_0 : faB Tryz.prog 78 0 0 = true := by kernel_rfl
theorem fa_83_0 : faB Tryz.prog 83 0 0 = true := by kernel_rfl
theorem fa_83_1 : faB Tryz.prog 83 1 1 = true := by kernel_rfl
theorem fa_88_0 : faB Tryz.prog 88 0 0 = true := by kernel_rfl
theorem fa_88_1 : faB Tryz.prog 88 1 1 = true := by kernel_rfl
theorem fa_88_2 : faB Tryz.prog 88 2 2 = true := by kernel_rfl
theorem fa_93_0 : faB Tryz.prog 93 0 0 = true := by kernel_rfl
theorem fa_93_1 : faB Tryz.prog 93 1 1 = true := by kernel_rfl
theorem fa_93_2 : faB Tryz.prog 93 2 2 = true := by kernel_rfl
theorem fa_93_3 : faB Tryz.prog 93 3 8 = true := by kernel_rfl
theorem fa_99_0 : faB Tryz.prog 99 0 0 = true := by kernel_rfl
theorem fa_99_1 : faB Tryz.prog 99 1 1 = true := by kernel_rfl
theorem fa_99_2 : faB Tryz.prog 99 2 3 = true := by kernel_rfl
theorem fa_99_3 : faB Tryz.prog 99 3 4 = true := by kernel_rfl
theorem fa_99_4 : faB Tryz.prog 99 4 5 = true := by kernel_rfl
theorem mo : Tryz.prog.follows .mixedOrders = true := by kernel_rfl
theorem pl_106 : PL Tryz.prog 106 [(0, 1), (1, 1), (2, 1), (3, 1)] := ⟨_, Tryz.underlying106, by kernel_rfl⟩
theorem pl_109 : PL Tryz.prog 109 [(0, 1), (1, 1)] := ⟨_, Tryz.underlying109, by kernel_rfl⟩
theorem pl_112 : PL Tryz.prog 112 [(0, 1), (1, 1), (2, 1), (3, 1)] := ⟨_, Tryz.underlying112, by kernel_rfl⟩
theorem pl_117 : PL Tryz.prog 117 [(0, 1)] := ⟨_, Tryz.underlying117, by kernel_rfl⟩
theorem pl_133 : PL Tryz.prog 133 [(0, 1), (1, 1), (2, 1), (3, 1), (4, 1)] := ⟨_, Tryz.underlying133, by kernel_rfl⟩
theorem pl_137 : PL Tryz.prog 137 [(0, 1), (1, 6), (7, 1), (8, 1)] := ⟨_, Tryz.underlying137, by kernel_rfl⟩
theorem pl_139 : PL Tryz.prog 139 [(0, 1), (1, 1), (2, 1)] := ⟨_, Tryz.underlying139, by kernel_rfl⟩
theorem pl_162 : PL Tryz.prog 162 [(0, 1), (1, 1)] := ⟨_, Tryz.underlying162, by kernel_rfl⟩
theorem pl_34 : PL Tryz.prog 34 [(0, 1), (1, 1), (2, 1)] := ⟨_, Tryz.underlying34, by kernel_rfl⟩
theorem pl_42 : PL Tryz.prog 42 [(0, 1), (1, 1)] := ⟨_, Tryz.underlying42, by kernel_rfl⟩
theorem pl_51 : PL Tryz.prog 51 [(0, 1), (1, 6), (7, 3), (10, 1)] := ⟨_, Tryz.underlying51, by kernel_rfl⟩
theorem pl_64 : PL Tryz.prog 64 [(0, 2), (2, 6), (8, 3), (11, 1)] := ⟨_, Tryz.underlying64, by kernel_rfl⟩
theorem pl_70 : PL Tryz.prog 70 [(0, 1), (1, 1)] := ⟨_, Tryz.underlying70, by kernel_rfl⟩
theorem pl_72 : PL Tryz.prog 72 [(0, 1), (1, 1), (2, 1), (3, 2), (5, 1)] := ⟨_, Tryz.underlying72, by kernel_rfl⟩
theorem pl_78 : PL Tryz.prog 78 [(0, 1), (1, 1)] := ⟨_, Tryz.underlying78, by kernel_rfl⟩
theorem pl_83 : PL Tryz.prog 83 [(0, 1), (1, 1)] := ⟨_, Tryz.underlying83, by kernel_rfl⟩
theorem pl_88 : PL Tryz.prog 88 [(0, 1), (1, 1), (2, 1)] := ⟨_, Tryz.underlying88, by kernel_rfl⟩
theorem pl_93 : PL Tryz.prog 93 [(0, 1), (1, 1), (2, 6), (8, 1)] := ⟨_, Tryz.underlying93, by kernel_rfl⟩
theorem pl_99 : PL Tryz.prog 99 [(0, 1), (1, 2), (3, 1), (4, 1), (5, 1)] := ⟨_, Tryz.underlying99, by kernel_rfl⟩
theorem ta_106 : taB Tryz.prog 106 4 = true := by kernel_rfl
theorem ta_133 : taB Tryz.prog 133 5 = true := by kernel_rfl
theorem ta_139 : taB Tryz.prog 139 3 = true := by kernel_rfl
theorem ta_162 : taB Tryz.prog 162 2 = true := by kernel_rfl
theorem ta_23 : taB Tryz.prog 23 6 = true := by kernel_rfl
theorem ta_34 : taB Tryz.prog 34 3 = true := by kernel_rfl
theorem ta_42 : taB Tryz.prog 42 2 = true := by kernel_rfl
theorem ta_48 : taB Tryz.prog 48 3 = true := by kernel_rfl
theorem ta_72 : taB Tryz.prog 72 6 = true := by kernel_rfl
theorem ta_78 : taB Tryz.prog 78 2 = true := by kernel_rfl
theorem ta_88 : taB Tryz.prog 88 3 = true := by kernel_rfl
theorem ta_89 : taB Tryz.prog 89 6 = true := by kernel_rfl
theorem tc_107 : tcB Tryz.prog 107 = true := by kernel_rfl
theorem tc_110 : tcB Tryz.prog 110 = true := by kernel_rfl
theorem tc_113 : tcB Tryz.prog 113 = true := by kernel_rfl
theorem tc_135 : tcB Tryz.prog 135 = true := by kernel_rfl
theorem tc_3 : tcB Tryz.prog 3 = true := by kernel_rfl
theorem tc_32 : tcB Tryz.prog 32 = true := by kernel_rfl
theorem tc_4 : tcB Tryz.prog 4 = true := by kernel_rfl
theorem tc_43 : tcB Tryz.prog 43 = true := by kernel_rfl
theorem tc_46 : tcB Tryz.prog 46 = true := by kernel_rfl
theorem tc_47 : tcB Tryz.prog 47 = true := by kernel_rfl
theorem tc_49 : tcB Tryz.prog 49 = true := by kernel_rfl
theorem tc_56 : tcB Tryz.prog 56 = true := by kernel_rfl
theorem tc_57 : tcB Tryz.prog 57 = true := by kernel_rfl
theorem tc_60 : tcB Tryz.prog 60 = true := by kernel_rfl
theorem tc_62 : tcB Tryz.prog 62 = true := by kernel_rfl
theorem tc_68 : tcB Tryz.prog 68 = true := by kernel_rfl
theorem tc_76 : tcB Tryz.prog 76 = true := by kernel_rfl
theorem tc_81 : tcB Tryz.prog 81 = true := by kernel_rfl
theorem tc_91 : tcB Tryz.prog 91 = true := by kernel_rfl
theorem tc_95 : tcB Tryz.prog 95 = true := by kernel_rfl
theorem zo_72 : zoB Tryz.prog 72 = true := by kernel_rfl
theorem zr_106 : ZR Tryz.prog 106 [.slice Option.none 0 0, .int .i64 0, .slice Option.none 0 0, .slice Option.none 0 0] := by unfold ZR; kernel_rfl
theorem zr_109 : ZR Tryz.prog 109 [.slice Option.none 0 0, .slice Option.none 0 0] := by unfold ZR; kernel_rfl
theorem zr_112 : ZR Tryz.prog 112 [.slice Option.none 0 0, .int .i64 0, .slice Option.none 0 0, .slice Option.none 0 0] := by unfold ZR; kernel_rfl
theorem zr_113 : ZR Tryz.prog 113 [.pointer Option.none] := by unfold ZR; kernel_rfl
theorem zr_117 : ZR Tryz.prog 117 [.slice Option.none 0 0] := by unfold ZR; kernel_rfl
theorem zr_133 : ZR Tryz.prog 133 [.int .i64 0, .int .i64 0, .int .i64 0, .int .i64 0, .bool false] := by unfold ZR; kernel_rfl
theorem zr_137 : ZR Tryz.prog 137 [.int .i64 0, .int .i64 0, .int .i64 0, .int .i64 0, .int .i64 0, .int .i64 0, .int .i64 0, .slice Option.none 0 0, .slice Option.none 0 0] := by unfold ZR; kernel_rfl
theorem zr_139 : ZR Tryz.prog 139 [.int .i64 0, .int .i64 0, .int .i64 0] := by unfold ZR; kernel_rfl
theorem zr_162 : ZR Tryz.prog 162 [.int .i64 0, .bool false] := by unfold ZR; kernel_rfl
theorem zr_23 : ZR Tryz.prog 23 [.int .i64 0, .int .i64 0, .int .i64 0, .int .i64 0, .int .i64 0, .int .i64 0] := by unfold ZR; kernel_rfl
theorem zr_3 : ZR Tryz.prog 3 [.int .i64 0] := by unfold ZR; kernel_rfl
theorem zr_34 : ZR Tryz.prog 34 [.int .i64 0, .int .i64 0, .slice Option.none 0 0] := by unfold ZR; kernel_rfl
theorem zr_4 : ZR Tryz.prog 4 [.bool false] := by unfold ZR; kernel_rfl
theorem zr_42 : ZR Tryz.prog 42 [.int .i64 0, .int .i64 0] := by unfold ZR; kernel_rfl
theorem zr_51 : ZR Tryz.prog 51 [.pointer Option.none, .int .i64 0, .int .i64 0, .int .i64 0, .int .i64 0, .int .i64 0, .int .i64 0, .pointer Option.none, .pointer Option.none, .pointer Option.none, .pointer Option.none] := by unfold ZR; kernel_rfl
theorem zr_64 : ZR Tryz.prog 64 [.slice Option.none 0 0, .slice Option.none 0 0, .int .i64 0, .int .i64 0, .int .i64 0, .int .i64 0, .int .i64 0, .int .i64 0, .pointer Option.none, .pointer Option.none, .pointer Option.none, .slice Option.none 0 0] := by unfold ZR; kernel_rfl
theorem zr_70 : ZR Tryz.prog 70 [.pointer Option.none, .int .i64 0] := by unfold ZR; kernel_rfl
theorem zr_72 : ZR Tryz.prog 72 [.int .i64 0, .int .i64 0, .int .i64 0, .int .i64 0, .int .i64 0, .bool false] := by unfold ZR; kernel_rfl
theorem zr_78 : ZR Tryz.prog 78 [.int .i64 0, .int .i64 0] := by unfold ZR; kernel_rfl
theorem zr_83 : ZR Tryz.prog 83 [.pointer Option.none, .slice Option.none 0 0] := by unfold ZR; kernel_rfl
theorem zr_88 : ZR Tryz.prog 88 [.int .i64 0, .int .i64 0, .int .i64 0] := by unfold ZR; kernel_rfl
theorem zr_89 : ZR Tryz.prog 89 [.int .i64 0, .int .i64 0, .int .i64 0, .int .i64 0, .int .i64 0, .int .i64 0] := by unfold ZR; kernel_rfl
theorem zr_93 : ZR Tryz.prog 93 [.pointer Option.none, .int .i64 0, .int .i64 0, .int .i64 0, .int .i64 0, .int .i64 0, .int .i64 0, .int .i64 0, .slice Option.none 0 0] := by unfold ZR; kernel_rfl
theorem zr_99 : ZR Tryz.prog 99 [.int .i64 0, .int .i64 0, .int .i64 0, .slice Option.none 0 0, .slice Option.none 0 0, .slice Option.none 0 0] := by unfold ZR; kernel_rfl
end Go.Proofs.YtmakdilmibjpbacGreat
