/- Closed facts of the tables of this program. -/
import Derived.Test.YtmakdilmibjpbacRows
import Derived.Test.YtmakdilmibjpbacDel
import Derived.KernelRfl
namespace Go.Proofs.Ytmakdilmibjpbac
open Go
theorem cf_100 : cfB Try.prog 100 = true := by kernel_rfl
theorem cf_101 : cfB Try.prog 101 = true := by kernel_rfl
theorem cf_102 : cfB Try.prog 102 = true := by kernel_rfl
theorem cf_103 : cfB Try.prog 103 = true := by kernel_rfl
theorem cf_104 : cfB Try.prog 104 = true := by kernel_rfl
theorem cf_105 : cfB Try.prog 105 = true := by kernel_rfl
theorem cf_106 : cfB Try.prog 106 = true := by kernel_rfl
theorem cf_107 : cfB Try.prog 107 = true := by kernel_rfl
theorem cf_108 : cfB Try.prog 108 = true := by kernel_rfl
theorem cf_109 : cfB Try.prog 109 = true := by kernel_rfl
theorem cf_14 : cfB Try.prog 14 = true := by kernel_rfl
theorem cf_15 : cfB Try.prog 15 = true := by kernel_rfl
theorem cf_16 : cfB Try.prog 16 = true := by kernel_rfl
theorem cf_17 : cfB Try.prog 17 = true := by kernel_rfl
theorem cf_18 : cfB Try.prog 18 = true := by kernel_rfl
theorem cf_19 : cfB Try.prog 19 = true := by kernel_rfl
theorem cf_20 : cfB Try.prog 20 = true := by kernel_rfl
theorem cf_21 : cfB Try.prog 21 = true := by kernel_rfl
theorem cf_22 : cfB Try.prog 22 = true := by kernel_rfl
theorem cf_23 : cfB Try.prog 23 = true := by kernel_rfl
theorem cf_24 : cfB Try.prog 24 = true := by kernel_rfl
theorem cf_25 : cfB Try.prog 25 = true := by kernel_rfl
theorem cf_26 : cfB Try.prog 26 = true := by kernel_rfl
theorem cf_27 : cfB Try.prog 27 = true := by kernel_rfl
theorem cf_28 : cfB Try.prog 28 = true := by kernel_rfl
theorem cf_29 : cfB Try.prog 29 = true := by kernel_rfl
theorem cf_30 : cfB Try.prog 30 = true := by kernel_rfl
theorem cf_31 : cfB Try.prog 31 = true := by kernel_rfl
theorem cf_32 : cfB Try.prog 32 = true := by kernel_rfl
theorem cf_33 : cfB Try.prog 33 = true := by kernel_rfl
theorem cf_34 : cfB Try.prog 34 = true := by kernel_rfl
theorem cf_35 : cfB Try.prog 35 = true := by kernel_rfl
theorem cf_36 : cfB Try.prog 36 = true := by kernel_rfl
theorem cf_37 : cfB Try.prog 37 = true := by kernel_rfl
theorem cf_38 : cfB Try.prog 38 = true := by kernel_rfl
theorem cf_39 : cfB Try.prog 39 = true := by kernel_rfl
theorem cf_40 : cfB Try.prog 40 = true := by kernel_rfl
theorem cf_41 : cfB Try.prog 41 = true := by kernel_rfl
theorem cf_42 : cfB Try.prog 42 = true := by kernel_rfl
theorem cf_43 : cfB Try.prog 43 = true := by kernel_rfl
theorem cf_44 : cfB Try.prog 44 = true := by kernel_rfl
theorem cf_45 : cfB Try.prog 45 = true := by kernel_rfl
theorem cf_46 : cfB Try.prog 46 = true := by kernel_rfl
theorem cf_47 : cfB Try.prog 47 = true := by kernel_rfl
theorem cf_48 : cfB Try.prog 48 = true := by kernel_rfl
theorem cf_49 : cfB Try.prog 49 = true := by kernel_rfl
theorem cf_50 : cfB Try.prog 50 = true := by kernel_rfl
theorem cf_51 : cfB Try.prog 51 = true := by kernel_rfl
theorem cf_52 : cfB Try.prog 52 = true := by kernel_rfl
theorem cf_53 : cfB Try.prog 53 = true := by kernel_rfl
theorem cf_54 : cfB Try.prog 54 = true := by kernel_rfl
theorem cf_55 : cfB Try.prog 55 = true := by kernel_rfl
theorem cf_56 : cfB Try.prog 56 = true := by kernel_rfl
theorem cf_57 : cfB Try.prog 57 = true := by kernel_rfl
theorem cf_58 : cfB Try.prog 58 = true := by kernel_rfl
theorem cf_59 : cfB Try.prog 59 = true := by kernel_rfl
theorem cf_60 : cfB Try.prog 60 = true := by kernel_rfl
theorem cf_61 : cfB Try.prog 61 = true := by kernel_rfl
theorem cf_62 : cfB Try.prog 62 = true := by kernel_rfl
theorem cf_63 : cfB Try.prog 63 = true := by kernel_rfl
theorem cf_64 : cfB Try.prog 64 = true := by kernel_rfl
theorem cf_65 : cfB Try.prog 65 = true := by kernel_rfl
theorem cf_66 : cfB Try.prog 66 = true := by kernel_rfl
theorem cf_67 : cfB Try.prog 67 = true := by kernel_rfl
theorem cf_68 : cfB Try.prog 68 = true := by kernel_rfl
theorem cf_69 : cfB Try.prog 69 = true := by kernel_rfl
theorem cf_70 : cfB Try.prog 70 = true := by kernel_rfl
theorem cf_71 : cfB Try.prog 71 = true := by kernel_rfl
theorem cf_72 : cfB Try.prog 72 = true := by kernel_rfl
theorem cf_73 : cfB Try.prog 73 = true := by kernel_rfl
theorem cf_74 : cfB Try.prog 74 = true := by kernel_rfl
theorem cf_75 : cfB Try.prog 75 = true := by kernel_rfl
theorem cf_76 : cfB Try.prog 76 = true := by kernel_rfl
theorem cf_77 : cfB Try.prog 77 = true := by kernel_rfl
theorem cf_78 : cfB Try.prog 78 = true := by kernel_rfl
theorem cf_79 : cfB Try.prog 79 = true := by kernel_rfl
theorem cf_80 : cfB Try.prog 80 = true := by kernel_rfl
theorem cf_81 : cfB Try.prog 81 = true := by kernel_rfl
theorem cf_82 : cfB Try.prog 82 = true := by kernel_rfl
theorem cf_83 : cfB Try.prog 83 = true := by kernel_rfl
theorem cf_84 : cfB Try.prog 84 = true := by kernel_rfl
theorem cf_85 : cfB Try.prog 85 = true := by kernel_rfl
theorem cf_86 : cfB Try.prog 86 = true := by kernel_rfl
theorem cf_87 : cfB Try.prog 87 = true := by kernel_rfl
theorem cf_88 : cfB Try.prog 88 = true := by kernel_rfl
theorem cf_89 : cfB Try.prog 89 = true := by kernel_rfl
theorem cf_90 : cfB Try.prog 90 = true := by kernel_rfl
theorem cf_91 : cfB Try.prog 91 = true := by kernel_rfl
theorem cf_92 : cfB Try.prog 92 = true := by kernel_rfl
theorem cf_93 : cfB Try.prog 93 = true := by kernel_rfl
theorem cf_94 : cfB Try.prog 94 = true := by kernel_rfl
theorem cf_95 : cfB Try.prog 95 = true := by kernel_rfl
theorem cf_96 : cfB Try.prog 96 = true := by kernel_rfl
theorem cf_97 : cfB Try.prog 97 = true := by kernel_rfl
theorem cf_98 : cfB Try.prog 98 = true := by kernel_rfl
theorem cf_99 : cfB Try.prog 99 = true := by kernel_rfl
theorem el_101 : EL Try.prog 101 5 40 := elB.EL (by kernel_rfl)
theorem el_108 : EL Try.prog 108 2 16 := elB.EL (by kernel_rfl)
theorem el_119 : EL Try.prog 119 1 8 := elB.EL (by kernel_rfl)
theorem el_29 : EL Try.prog 29 2 16 := elB.EL (by kernel_rfl)
theorem el_3 : EL Try.prog 3 1 8 := elB.EL (by kernel_rfl)
theorem el_31 : EL Try.prog 31 6 48 := elB.EL (by kernel_rfl)
theorem el_4 : EL Try.prog 4 1 1 := elB.EL (by kernel_rfl)
theorem el_54 : EL Try.prog 54 3 24 := elB.EL (by kernel_rfl)
theorem fa_101_0 : faB Try.prog 101 0 0 = true := by kernel_rfl
theorem fa_101_1 : faB Try.prog 101 1 1 = true := by kernel_rfl
theorem fa_101_2 : faB Try.prog 101 2 2 = true := by kernel_rfl
theorem fa_101_3 : faB Try.prog 101 3 3 = true := by kernel_rfl
theorem fa_101_4 : faB Try.prog 101 4 4 = true := by kernel_rfl
theorem fa_104_0 : faB Try.prog 104 0 0 = true := by kernel_rfl
theorem fa_104_1 : faB Try.prog 104 1 1 = true := by kernel_rfl
theorem fa_104_2 : faB Try.prog 104 2 7 = true := by kernel_rfl
theorem fa_104_3 : faB Try.prog 104 3 8 = true := by kernel_rfl
theorem fa_108_0 : faB Try.prog 108 0 0 = true := by kernel_rfl
theorem fa_108_1 : faB Try.prog 108 1 1 = true := by kernel_rfl
theorem fa_118_0 : faB Try.prog 118 0 0 = true := by kernel_rfl
theorem fa_118_1 : faB Try.prog 118 1 1 = true := by kernel_rfl
theorem fa_122_0 : faB Try.prog 122 0 0 = true := by kernel_rfl
theorem fa_122_1 : faB Try.prog 122 1 1 = true := by kernel_rfl
theorem fa_122_2 : faB Try.prog 122 2 2 = true := by kernel_rfl
theorem fa_122_3 : faB Try.prog 122 3 3 = true := by kernel_rfl
theorem fa_133_0 : faB Try.prog 133 0 0 = true := by kernel_rfl
theorem fa_29_0 : faB Try.prog 29 0 0 = true := by kernel_rfl
theorem fa_29_1 : faB Try.prog 29 1 1 = true := by kernel_rfl
theorem fa_31_0 : faB Try.prog 31 0 0 = true := by kernel_rfl
theorem fa_31_1 : faB Try.prog 31 1 1 = true := by kernel_rfl
theorem fa_31_2 : faB Try.prog 31 2 2 = true := by kernel_rfl
theorem fa_31_3 : faB Try.prog 31 3 3 = true := by kernel_rfl
theorem fa_31_4 : faB Try.prog 31 4 5 = true := by kernel_rfl
theorem fa_35_0 : faB Try.prog 35 0 0 = true := by kernel_rfl
theorem fa_35_1 : faB Try.prog 35 1 1 = true := by kernel_rfl
theorem fa_35_2 : faB Try.prog 35 2 2 = true := by kernel_rfl
theorem fa_40_0 : faB Try.prog 40 0 0 = true := by kernel_rfl
theorem fa_40_1 : faB Try.prog 40 1 1 = true := by kernel_rfl
theorem fa_44_0 : faB Try.prog 44 0 0 = true := by kernel_rfl
theorem fa_44_1 : faB Try.prog 44 1 1 = true := by kernel_rfl
theorem fa_44_2 : faB Try.prog 44 2 2 = true := by kernel_rfl
theorem fa_44_3 : faB Try.prog 44 3 8 = true := by kernel_rfl
theorem fa_54_0 : faB Try.prog 54 0 0 = true := by kernel_rfl
theorem fa_54_1 : faB Try.prog 54 1 1 = true := by kernel_rfl
theorem fa_54_2 : faB Try.prog 54 2 2 = true := by kernel_rfl
theorem fa_60_0 : faB Try.prog 60 0 0 = true := by kernel_rfl
theorem fa_60_1 : faB Try.prog 60 1 1 = true := by kernel_rfl
theorem fa_64_0 : faB Try.prog 64 0 0 = true := by kernel_rfl
theorem fa_64_1 : faB Try.prog 64 1 1 = true := by kernel_rfl
theorem fa_64_2 : faB Try.prog 64 2 3 = true := by kernel_rfl
theorem fa_64_3 : faB Try.prog 64 3 4 = true := by kernel_rfl
theorem fa_64_4 : faB Try.prog 64 4 5 = true := by kernel_rfl
theorem fa_72_0 : faB Try.prog 72 0 0 = true := by kernel_rfl
theorem fa_72_1 : faB Try.prog 72 1 1 = true := by kernel_rfl
theorem fa_72_2 : faB Try.prog 72 2 2 = true := by kernel_rfl
theorem fa_84_0 : faB Try.prog 84 0 0 = true := by kernel_rfl
theorem fa_84_1 : faB Try.prog 84 1 1 = true := by kernel_rfl
theorem fa_84_2 : faB Try.prog 84 2 7 = true := by kernel_rfl
theorem fa_84_3 : faB Try.prog 84 3 10 = true := by kernel_rfl
theorem fa_89_0 : faB Try.prog 89 0 0 = true := by kernel_rfl
theorem mo : Try.prog.follows .mixedOrders = true := by kernel_rfl
theorem pl_101 : PL Try.prog 101 [(0, 1), (1, 1), (2, 1), (3, 1), (4, 1)] := ⟨_, Try.underlying101, by kernel_rfl⟩
theorem pl_104 : PL Try.prog 104 [(0, 1), (1, 6), (7, 1), (8, 1)] := ⟨_, Try.underlying104, by kernel_rfl⟩
theorem pl_108 : PL Try.prog 108 [(0, 1), (1, 1)] := ⟨_, Try.underlying108, by kernel_rfl⟩
theorem pl_118 : PL Try.prog 118 [(0, 1), (1, 1)] := ⟨_, Try.underlying118, by kernel_rfl⟩
theorem pl_122 : PL Try.prog 122 [(0, 1), (1, 1), (2, 1), (3, 1)] := ⟨_, Try.underlying122, by kernel_rfl⟩
theorem pl_133 : PL Try.prog 133 [(0, 1)] := ⟨_, Try.underlying133, by kernel_rfl⟩
theorem pl_29 : PL Try.prog 29 [(0, 1), (1, 1)] := ⟨_, Try.underlying29, by kernel_rfl⟩
theorem pl_31 : PL Try.prog 31 [(0, 1), (1, 1), (2, 1), (3, 2), (5, 1)] := ⟨_, Try.underlying31, by kernel_rfl⟩
theorem pl_35 : PL Try.prog 35 [(0, 1), (1, 1), (2, 1)] := ⟨_, Try.underlying35, by kernel_rfl⟩
theorem pl_40 : PL Try.prog 40 [(0, 1), (1, 1)] := ⟨_, Try.underlying40, by kernel_rfl⟩
theorem pl_44 : PL Try.prog 44 [(0, 1), (1, 1), (2, 6), (8, 1)] := ⟨_, Try.underlying44, by kernel_rfl⟩
theorem pl_54 : PL Try.prog 54 [(0, 1), (1, 1), (2, 1)] := ⟨_, Try.underlying54, by kernel_rfl⟩
theorem pl_60 : PL Try.prog 60 [(0, 1), (1, 1)] := ⟨_, Try.underlying60, by kernel_rfl⟩
theorem pl_64 : PL Try.prog 64 [(0, 1), (1, 2), (3, 1), (4, 1), (5, 1)] := ⟨_, Try.underlying64, by kernel_rfl⟩
theorem pl_72 : PL Try.prog 72 [(0, 1), (1, 1), (2, 1)] := ⟨_, Try.underlying72, by kernel_rfl⟩
theorem pl_84 : PL Try.prog 84 [(0, 1), (1, 6), (7, 3), (10, 1)] := ⟨_, Try.underlying84, by kernel_rfl⟩
theorem pl_89 : PL Try.prog 89 [(0, 1), (1, 1)] := ⟨_, Try.underlying89, by kernel_rfl⟩
theorem ta_101 : taB Try.prog 101 5 = true := by kernel_rfl
theorem ta_108 : taB Try.prog 108 2 = true := by kernel_rfl
theorem ta_23 : taB Try.prog 23 6 = true := by kernel_rfl
theorem ta_29 : taB Try.prog 29 2 = true := by kernel_rfl
theorem ta_31 : taB Try.prog 31 6 = true := by kernel_rfl
theorem ta_35 : taB Try.prog 35 3 = true := by kernel_rfl
theorem ta_36 : taB Try.prog 36 6 = true := by kernel_rfl
theorem ta_54 : taB Try.prog 54 3 = true := by kernel_rfl
theorem ta_72 : taB Try.prog 72 3 = true := by kernel_rfl
theorem ta_81 : taB Try.prog 81 3 = true := by kernel_rfl
theorem ta_89 : taB Try.prog 89 2 = true := by kernel_rfl
theorem tc_102 : tcB Try.prog 102 = true := by kernel_rfl
theorem tc_116 : tcB Try.prog 116 = true := by kernel_rfl
theorem tc_119 : tcB Try.prog 119 = true := by kernel_rfl
theorem tc_120 : tcB Try.prog 120 = true := by kernel_rfl
theorem tc_24 : tcB Try.prog 24 = true := by kernel_rfl
theorem tc_26 : tcB Try.prog 26 = true := by kernel_rfl
theorem tc_3 : tcB Try.prog 3 = true := by kernel_rfl
theorem tc_38 : tcB Try.prog 38 = true := by kernel_rfl
theorem tc_4 : tcB Try.prog 4 = true := by kernel_rfl
theorem tc_41 : tcB Try.prog 41 = true := by kernel_rfl
theorem tc_42 : tcB Try.prog 42 = true := by kernel_rfl
theorem tc_45 : tcB Try.prog 45 = true := by kernel_rfl
theorem tc_58 : tcB Try.prog 58 = true := by kernel_rfl
theorem tc_62 : tcB Try.prog 62 = true := by kernel_rfl
theorem tc_70 : tcB Try.prog 70 = true := by kernel_rfl
theorem tc_80 : tcB Try.prog 80 = true := by kernel_rfl
theorem tc_82 : tcB Try.prog 82 = true := by kernel_rfl
theorem zo_31 : zoB Try.prog 31 = true := by kernel_rfl
theorem zr_101 : ZR Try.prog 101 [.int .i64 0, .int .i64 0, .int .i64 0, .int .i64 0, .bool false] := by unfold ZR; kernel_rfl
theorem zr_104 : ZR Try.prog 104 [.int .i64 0, .int .i64 0, .int .i64 0, .int .i64 0, .int .i64 0, .int .i64 0, .int .i64 0, .slice Option.none 0 0, .slice Option.none 0 0] := by unfold ZR; kernel_rfl
theorem zr_108 : ZR Try.prog 108 [.int .i64 0, .bool false] := by unfold ZR; kernel_rfl
theorem zr_118 : ZR Try.prog 118 [.slice Option.none 0 0, .slice Option.none 0 0] := by unfold ZR; kernel_rfl
theorem zr_119 : ZR Try.prog 119 [.pointer Option.none] := by unfold ZR; kernel_rfl
theorem zr_122 : ZR Try.prog 122 [.slice Option.none 0 0, .int .i64 0, .slice Option.none 0 0, .slice Option.none 0 0] := by unfold ZR; kernel_rfl
theorem zr_133 : ZR Try.prog 133 [.slice Option.none 0 0] := by unfold ZR; kernel_rfl
theorem zr_23 : ZR Try.prog 23 [.int .i64 0, .int .i64 0, .int .i64 0, .int .i64 0, .int .i64 0, .int .i64 0] := by unfold ZR; kernel_rfl
theorem zr_29 : ZR Try.prog 29 [.int .i64 0, .int .i64 0] := by unfold ZR; kernel_rfl
theorem zr_3 : ZR Try.prog 3 [.int .i64 0] := by unfold ZR; kernel_rfl
theorem zr_31 : ZR Try.prog 31 [.int .i64 0, .int .i64 0, .int .i64 0, .int .i64 0, .int .i64 0, .bool false] := by unfold ZR; kernel_rfl
theorem zr_35 : ZR Try.prog 35 [.int .i64 0, .int .i64 0, .int .i64 0] := by unfold ZR; kernel_rfl
theorem zr_36 : ZR Try.prog 36 [.int .i64 0, .int .i64 0, .int .i64 0, .int .i64 0, .int .i64 0, .int .i64 0] := by unfold ZR; kernel_rfl
theorem zr_4 : ZR Try.prog 4 [.bool false] := by unfold ZR; kernel_rfl
theorem zr_40 : ZR Try.prog 40 [.pointer Option.none, .int .i64 0] := by unfold ZR; kernel_rfl
theorem zr_44 : ZR Try.prog 44 [.pointer Option.none, .int .i64 0, .int .i64 0, .int .i64 0, .int .i64 0, .int .i64 0, .int .i64 0, .int .i64 0, .slice Option.none 0 0] := by unfold ZR; kernel_rfl
theorem zr_54 : ZR Try.prog 54 [.int .i64 0, .int .i64 0, .int .i64 0] := by unfold ZR; kernel_rfl
theorem zr_60 : ZR Try.prog 60 [.pointer Option.none, .slice Option.none 0 0] := by unfold ZR; kernel_rfl
theorem zr_64 : ZR Try.prog 64 [.int .i64 0, .int .i64 0, .int .i64 0, .slice Option.none 0 0, .slice Option.none 0 0, .slice Option.none 0 0] := by unfold ZR; kernel_rfl
theorem zr_72 : ZR Try.prog 72 [.int .i64 0, .int .i64 0, .slice Option.none 0 0] := by unfold ZR; kernel_rfl
theorem zr_84 : ZR Try.prog 84 [.pointer Option.none, .int .i64 0, .int .i64 0, .int .i64 0, .int .i64 0, .int .i64 0, .int .i64 0, .pointer Option.none, .pointer Option.none, .pointer Option.none, .pointer Option.none] := by unfold ZR; kernel_rfl
theorem zr_89 : ZR Try.prog 89 [.int .i64 0, .int .i64 0] := by unfold ZR; kernel_rfl
end Go.Proofs.Ytmakdilmibjpbac
