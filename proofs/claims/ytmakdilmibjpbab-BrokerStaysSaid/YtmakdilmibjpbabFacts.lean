/- Closed facts of the tables of this program. -/
import Derived.Test.YtmakdilmibjpbabRows
import Derived.Test.YtmakdilmibjpbabDel
import Derived.KernelRfl
namespace Go.Proofs.Ytmakdilmibjpbab
open Go
theorem cf_14 : cfB Try.prog 14 = true := by kernel_rfl
theorem cf_15 : cfB Try.prog 15 = true := by kernel_rfl
theorem cf_16 : cfB Try.prog 16 = true := by kernel_rfl
theorem cf_17 : cfB Try.prog 17 = true := by kernel_rfl
theorem cf_18 : cfB Try.prog 18 = true := by kernel_rfl
theorem cf_19 : cfB Try.prog 19 = true := by kernel_rfl
theorem cf_20 : cfB Try.prog 20 = true := by kernel_rfl
theorem cf_21 : cfB Try.prog 21 = true := by kernel_rfl
theorem cf_22 : cfB Try.prog 22 = true := by kernel_rfl
theorem cf_23 : cfB Try.prog 23 = true := by kernel_rfl
theorem cf_24 : cfB Try.prog 24 = true := by kernel_rfl
theorem cf_25 : cfB Try.prog 25 = true := by kernel_rfl
theorem cf_26 : cfB Try.prog 26 = true := by kernel_rfl
theorem cf_27 : cfB Try.prog 27 = true := by kernel_rfl
theorem cf_28 : cfB Try.prog 28 = true := by kernel_rfl
theorem cf_29 : cfB Try.prog 29 = true := by kernel_rfl
theorem cf_30 : cfB Try.prog 30 = true := by kernel_rfl
theorem cf_31 : cfB Try.prog 31 = true := by kernel_rfl
theorem cf_32 : cfB Try.prog 32 = true := by kernel_rfl
theorem cf_33 : cfB Try.prog 33 = true := by kernel_rfl
theorem cf_34 : cfB Try.prog 34 = true := by kernel_rfl
theorem cf_35 : cfB Try.prog 35 = true := by kernel_rfl
theorem cf_36 : cfB Try.prog 36 = true := by kernel_rfl
theorem cf_37 : cfB Try.prog 37 = true := by kernel_rfl
theorem cf_38 : cfB Try.prog 38 = true := by kernel_rfl
theorem cf_39 : cfB Try.prog 39 = true := by kernel_rfl
theorem cf_40 : cfB Try.prog 40 = true := by kernel_rfl
theorem cf_41 : cfB Try.prog 41 = true := by kernel_rfl
theorem cf_42 : cfB Try.prog 42 = true := by kernel_rfl
theorem cf_43 : cfB Try.prog 43 = true := by kernel_rfl
theorem cf_44 : cfB Try.prog 44 = true := by kernel_rfl
theorem cf_45 : cfB Try.prog 45 = true := by kernel_rfl
theorem cf_46 : cfB Try.prog 46 = true := by kernel_rfl
theorem cf_47 : cfB Try.prog 47 = true := by kernel_rfl
theorem cf_48 : cfB Try.prog 48 = true := by kernel_rfl
theorem cf_49 : cfB Try.prog 49 = true := by kernel_rfl
theorem cf_50 : cfB Try.prog 50 = true := by kernel_rfl
theorem cf_51 : cfB Try.prog 51 = true := by kernel_rfl
theorem cf_52 : cfB Try.prog 52 = true := by kernel_rfl
theorem cf_53 : cfB Try.prog 53 = true := by kernel_rfl
theorem cf_54 : cfB Try.prog 54 = true := by kernel_rfl
theorem cf_55 : cfB Try.prog 55 = true := by kernel_rfl
theorem cf_56 : cfB Try.prog 56 = true := by kernel_rfl
theorem cf_57 : cfB Try.prog 57 = true := by kernel_rfl
theorem cf_58 : cfB Try.prog 58 = true := by kernel_rfl
theorem cf_59 : cfB Try.prog 59 = true := by kernel_rfl
theorem cf_60 : cfB Try.prog 60 = true := by kernel_rfl
theorem cf_61 : cfB Try.prog 61 = true := by kernel_rfl
theorem cf_62 : cfB Try.prog 62 = true := by kernel_rfl
theorem cf_63 : cfB Try.prog 63 = true := by kernel_rfl
theorem cf_64 : cfB Try.prog 64 = true := by kernel_rfl
theorem cf_65 : cfB Try.prog 65 = true := by kernel_rfl
theorem cf_66 : cfB Try.prog 66 = true := by kernel_rfl
theorem cf_67 : cfB Try.prog 67 = true := by kernel_rfl
theorem cf_68 : cfB Try.prog 68 = true := by kernel_rfl
theorem cf_69 : cfB Try.prog 69 = true := by kernel_rfl
theorem cf_70 : cfB Try.prog 70 = true := by kernel_rfl
theorem cf_71 : cfB Try.prog 71 = true := by kernel_rfl
theorem cf_72 : cfB Try.prog 72 = true := by kernel_rfl
theorem cf_73 : cfB Try.prog 73 = true := by kernel_rfl
theorem cf_74 : cfB Try.prog 74 = true := by kernel_rfl
theorem cf_75 : cfB Try.prog 75 = true := by kernel_rfl
theorem cf_76 : cfB Try.prog 76 = true := by kernel_rfl
theorem cf_77 : cfB Try.prog 77 = true := by kernel_rfl
theorem cf_78 : cfB Try.prog 78 = true := by kernel_rfl
theorem cf_79 : cfB Try.prog 79 = true := by kernel_rfl
theorem cf_80 : cfB Try.prog 80 = true := by kernel_rfl
theorem cf_81 : cfB Try.prog 81 = true := by kernel_rfl
theorem cf_82 : cfB Try.prog 82 = true := by kernel_rfl
theorem cf_83 : cfB Try.prog 83 = true := by kernel_rfl
theorem cf_84 : cfB Try.prog 84 = true := by kernel_rfl
theorem cf_85 : cfB Try.prog 85 = true := by kernel_rfl
theorem cf_86 : cfB Try.prog 86 = true := by kernel_rfl
theorem cf_87 : cfB Try.prog 87 = true := by kernel_rfl
theorem cf_88 : cfB Try.prog 88 = true := by kernel_rfl
theorem cf_89 : cfB Try.prog 89 = true := by kernel_rfl
theorem cf_90 : cfB Try.prog 90 = true := by kernel_rfl
theorem cf_91 : cfB Try.prog 91 = true := by kernel_rfl
theorem cf_92 : cfB Try.prog 92 = true := by kernel_rfl
theorem cf_93 : cfB Try.prog 93 = true := by kernel_rfl
theorem cf_94 : cfB Try.prog 94 = true := by kernel_rfl
theorem cf_95 : cfB Try.prog 95 = true := by kernel_rfl
theorem cf_96 : cfB Try.prog 96 = true := by kernel_rfl
theorem cf_97 : cfB Try.prog 97 = true := by kernel_rfl
theorem cf_98 : cfB Try.prog 98 = true := by kernel_rfl
theorem el_103 : EL Try.prog 103 5 40 := elB.EL (by kernel_rfl)
theorem el_116 : EL Try.prog 116 1 8 := elB.EL (by kernel_rfl)
theorem el_124 : EL Try.prog 124 2 16 := elB.EL (by kernel_rfl)
theorem el_3 : EL Try.prog 3 1 8 := elB.EL (by kernel_rfl)
theorem el_35 : EL Try.prog 35 2 16 := elB.EL (by kernel_rfl)
theorem el_37 : EL Try.prog 37 6 48 := elB.EL (by kernel_rfl)
theorem el_4 : EL Try.prog 4 1 1 := elB.EL (by kernel_rfl)
theorem el_67 : EL Try.prog 67 3 24 := elB.EL (by kernel_rfl)
theorem el_86 : EL Try.prog 86 4 80 := elB.EL (by kernel_rfl)
theorem fa_103_0 : faB Try.prog 103 0 0 = true := by kernel_rfl
theorem fa_103_1 : faB Try.prog 103 1 1 = true := by kernel_rfl
theorem fa_103_2 : faB Try.prog 103 2 2 = true := by kernel_rfl
theorem fa_103_3 : faB Try.prog 103 3 3 = true := by kernel_rfl
theorem fa_103_4 : faB Try.prog 103 4 4 = true := by kernel_rfl
theorem fa_105_0 : faB Try.prog 105 0 0 = true := by kernel_rfl
theorem fa_105_1 : faB Try.prog 105 1 1 = true := by kernel_rfl
theorem fa_105_2 : faB Try.prog 105 2 2 = true := by kernel_rfl
theorem fa_105_3 : faB Try.prog 105 3 8 = true := by kernel_rfl
theorem fa_107_0 : faB Try.prog 107 0 0 = true := by kernel_rfl
theorem fa_107_1 : faB Try.prog 107 1 1 = true := by kernel_rfl
theorem fa_114_0 : faB Try.prog 114 0 0 = true := by kernel_rfl
theorem fa_114_1 : faB Try.prog 114 1 1 = true := by kernel_rfl
theorem fa_119_0 : faB Try.prog 119 0 0 = true := by kernel_rfl
theorem fa_119_1 : faB Try.prog 119 1 1 = true := by kernel_rfl
theorem fa_119_2 : faB Try.prog 119 2 2 = true := by kernel_rfl
theorem fa_119_3 : faB Try.prog 119 3 3 = true := by kernel_rfl
theorem fa_124_0 : faB Try.prog 124 0 0 = true := by kernel_rfl
theorem fa_124_1 : faB Try.prog 124 1 1 = true := by kernel_rfl
theorem fa_127_0 : faB Try.prog 127 0 0 = true := by kernel_rfl
theorem fa_127_1 : faB Try.prog 127 1 1 = true := by kernel_rfl
theorem fa_127_2 : faB Try.prog 127 2 7 = true := by kernel_rfl
theorem fa_127_3 : faB Try.prog 127 3 8 = true := by kernel_rfl
theorem fa_35_0 : faB Try.prog 35 0 0 = true := by kernel_rfl
theorem fa_35_1 : faB Try.prog 35 1 1 = true := by kernel_rfl
theorem fa_37_0 : faB Try.prog 37 0 0 = true := by kernel_rfl
theorem fa_37_1 : faB Try.prog 37 1 1 = true := by kernel_rfl
theorem fa_37_2 : faB Try.prog 37 2 2 = true := by kernel_rfl
theorem fa_37_3 : faB Try.prog 37 3 3 = true := by kernel_rfl
theorem fa_37_4 : faB Try.prog 37 4 5 = true := by kernel_rfl
theorem fa_51_0 : faB Try.prog 51 0 0 = true := by kernel_rfl
theorem fa_51_1 : faB Try.prog 51 1 1 = true := by kernel_rfl
theorem fa_51_2 : faB Try.prog 51 2 2 = true := by kernel_rfl
theorem fa_59_0 : faB Try.prog 59 0 0 = true := by kernel_rfl
theorem fa_59_1 : faB Try.prog 59 1 1 = true := by kernel_rfl
theorem fa_59_2 : faB Try.prog 59 2 3 = true := by kernel_rfl
theorem fa_59_3 : faB Try.prog 59 3 4 = true := by kernel_rfl
theorem fa_59_4 : faB Try.prog 59 4 5 = true := by kernel_rfl
theorem fa_63_0 : faB Try.prog 63 0 0 = true := by kernel_rfl
theorem fa_63_1 : faB Try.prog 63 1 1 = true := by kernel_rfl
theorem fa_63_2 : faB Try.prog 63 2 2 = true := by kernel_rfl
theorem fa_63_3 : faB Try.prog 63 3 4 = true := by kernel_rfl
theorem fa_67_0 : faB Try.prog 67 0 0 = true := by kernel_rfl
theorem fa_67_1 : faB Try.prog 67 1 1 = true := by kernel_rfl
theorem fa_67_2 : faB Try.prog 67 2 2 = true := by kernel_rfl
theorem fa_77_0 : faB Try.prog 77 0 0 = true := by kernel_rfl
theorem fa_77_1 : faB Try.prog 77 1 1 = true := by kernel_rfl
theorem fa_80_0 : faB Try.prog 80 0 0 = true := by kernel_rfl
theorem fa_80_1 : faB Try.prog 80 1 1 = true := by kernel_rfl
theorem fa_80_2 : faB Try.prog 80 2 2 = true := by kernel_rfl
theorem fa_80_3 : faB Try.prog 80 3 3 = true := by kernel_rfl
theorem fa_80_4 : faB Try.prog 80 4 9 = true := by kernel_rfl
theorem fa_86_0 : faB Try.prog 86 0 0 = true := by kernel_rfl
theorem fa_86_1 : faB Try.prog 86 1 1 = true := by kernel_rfl
theorem fa_86_2 : faB Try.prog 86 2 2 = true := by kernel_rfl
theorem fa_86_3 : faB Try.prog 86 3 3 = true := by kernel_rfl
theorem fa_92_0 : faB Try.prog 92 0 0 = true := by kernel_rfl
theorem mo : Try.prog.follows .mixedOrders = true := by kernel_rfl
theorem pl_103 : PL Try.prog 103 [(0, 1), (1, 1), (2, 1), (3, 1), (4, 1)] := ⟨_, Try.underlying103, by kernel_rfl⟩
theorem pl_105 : PL Try.prog 105 [(0, 1), (1, 1), (2, 6), (8, 1)] := ⟨_, Try.underlying105, by kernel_rfl⟩
theorem pl_107 : PL Try.prog 107 [(0, 1), (1, 1)] := ⟨_, Try.underlying107, by kernel_rfl⟩
theorem pl_114 : PL Try.prog 114 [(0, 1), (1, 1)] := ⟨_, Try.underlying114, by kernel_rfl⟩
theorem pl_119 : PL Try.prog 119 [(0, 1), (1, 1), (2, 1), (3, 1)] := ⟨_, Try.underlying119, by kernel_rfl⟩
theorem pl_124 : PL Try.prog 124 [(0, 1), (1, 1)] := ⟨_, Try.underlying124, by kernel_rfl⟩
theorem pl_127 : PL Try.prog 127 [(0, 1), (1, 6), (7, 1), (8, 1)] := ⟨_, Try.underlying127, by kernel_rfl⟩
theorem pl_35 : PL Try.prog 35 [(0, 1), (1, 1)] := ⟨_, Try.underlying35, by kernel_rfl⟩
theorem pl_37 : PL Try.prog 37 [(0, 1), (1, 1), (2, 1), (3, 2), (5, 1)] := ⟨_, Try.underlying37, by kernel_rfl⟩
theorem pl_51 : PL Try.prog 51 [(0, 1), (1, 1), (2, 1)] := ⟨_, Try.underlying51, by kernel_rfl⟩
theorem pl_59 : PL Try.prog 59 [(0, 1), (1, 2), (3, 1), (4, 1), (5, 1)] := ⟨_, Try.underlying59, by kernel_rfl⟩
theorem pl_67 : PL Try.prog 67 [(0, 1), (1, 1), (2, 1)] := ⟨_, Try.underlying67, by kernel_rfl⟩
theorem pl_77 : PL Try.prog 77 [(0, 1), (1, 1)] := ⟨_, Try.underlying77, by kernel_rfl⟩
theorem pl_86 : PL Try.prog 86 [(0, 1), (1, 1), (2, 1), (3, 1)] := ⟨_, Try.underlying86, by kernel_rfl⟩
theorem pl_92 : PL Try.prog 92 [(0, 1), (1, 1)] := ⟨_, Try.underlying92, by kernel_rfl⟩
theorem ta_103 : taB Try.prog 103 5 = true := by kernel_rfl
theorem ta_124 : taB Try.prog 124 2 = true := by kernel_rfl
theorem ta_35 : taB Try.prog 35 2 = true := by kernel_rfl
theorem ta_37 : taB Try.prog 37 6 = true := by kernel_rfl
theorem ta_42 : taB Try.prog 42 6 = true := by kernel_rfl
theorem ta_51 : taB Try.prog 51 3 = true := by kernel_rfl
theorem ta_52 : taB Try.prog 52 6 = true := by kernel_rfl
theorem ta_63 : taB Try.prog 63 5 = true := by kernel_rfl
theorem ta_67 : taB Try.prog 67 3 = true := by kernel_rfl
theorem ta_80 : taB Try.prog 80 10 = true := by kernel_rfl
theorem ta_86 : taB Try.prog 86 4 = true := by kernel_rfl
theorem ta_92 : taB Try.prog 92 2 = true := by kernel_rfl
theorem tc_112 : tcB Try.prog 112 = true := by kernel_rfl
theorem tc_116 : tcB Try.prog 116 = true := by kernel_rfl
theorem tc_125 : tcB Try.prog 125 = true := by kernel_rfl
theorem tc_22 : tcB Try.prog 22 = true := by kernel_rfl
theorem tc_23 : tcB Try.prog 23 = true := by kernel_rfl
theorem tc_24 : tcB Try.prog 24 = true := by kernel_rfl
theorem tc_3 : tcB Try.prog 3 = true := by kernel_rfl
theorem tc_4 : tcB Try.prog 4 = true := by kernel_rfl
theorem tc_44 : tcB Try.prog 44 = true := by kernel_rfl
theorem tc_45 : tcB Try.prog 45 = true := by kernel_rfl
theorem tc_55 : tcB Try.prog 55 = true := by kernel_rfl
theorem tc_75 : tcB Try.prog 75 = true := by kernel_rfl
theorem tc_90 : tcB Try.prog 90 = true := by kernel_rfl
theorem zr_103 : ZR Try.prog 103 [.int .i64 0, .int .i64 0, .int .i64 0, .int .i64 0, .bool false] := by unfold ZR; kernel_rfl
theorem zr_105 : ZR Try.prog 105 [.pointer Option.none, .int .i64 0, .int .i64 0, .int .i64 0, .int .i64 0, .int .i64 0, .int .i64 0, .int .i64 0, .slice Option.none 0 0] := by unfold ZR; kernel_rfl
theorem zr_107 : ZR Try.prog 107 [.pointer Option.none, .slice Option.none 0 0] := by unfold ZR; kernel_rfl
theorem zr_114 : ZR Try.prog 114 [.slice Option.none 0 0, .slice Option.none 0 0] := by unfold ZR; kernel_rfl
theorem zr_116 : ZR Try.prog 116 [.pointer Option.none] := by unfold ZR; kernel_rfl
theorem zr_119 : ZR Try.prog 119 [.slice Option.none 0 0, .int .i64 0, .slice Option.none 0 0, .slice Option.none 0 0] := by unfold ZR; kernel_rfl
theorem zr_124 : ZR Try.prog 124 [.int .i64 0, .bool false] := by unfold ZR; kernel_rfl
theorem zr_127 : ZR Try.prog 127 [.int .i64 0, .int .i64 0, .int .i64 0, .int .i64 0, .int .i64 0, .int .i64 0, .int .i64 0, .slice Option.none 0 0, .slice Option.none 0 0] := by unfold ZR; kernel_rfl
theorem zr_3 : ZR Try.prog 3 [.int .i64 0] := by unfold ZR; kernel_rfl
theorem zr_35 : ZR Try.prog 35 [.int .i64 0, .int .i64 0] := by unfold ZR; kernel_rfl
theorem zr_37 : ZR Try.prog 37 [.int .i64 0, .int .i64 0, .int .i64 0, .int .i64 0, .int .i64 0, .bool false] := by unfold ZR; kernel_rfl
theorem zr_4 : ZR Try.prog 4 [.bool false] := by unfold ZR; kernel_rfl
theorem zr_42 : ZR Try.prog 42 [.int .i64 0, .int .i64 0, .int .i64 0, .int .i64 0, .int .i64 0, .int .i64 0] := by unfold ZR; kernel_rfl
theorem zr_44 : ZR Try.prog 44 [.pointer Option.none] := by unfold ZR; kernel_rfl
theorem zr_51 : ZR Try.prog 51 [.int .i64 0, .int .i64 0, .int .i64 0] := by unfold ZR; kernel_rfl
theorem zr_52 : ZR Try.prog 52 [.int .i64 0, .int .i64 0, .int .i64 0, .int .i64 0, .int .i64 0, .int .i64 0] := by unfold ZR; kernel_rfl
theorem zr_57 : ZR Try.prog 57 [.int .i64 0, .int .i64 0] := by unfold ZR; kernel_rfl
theorem zr_59 : ZR Try.prog 59 [.int .i64 0, .int .i64 0, .int .i64 0, .slice Option.none 0 0, .slice Option.none 0 0, .slice Option.none 0 0] := by unfold ZR; kernel_rfl
theorem zr_63 : ZR Try.prog 63 [.int .i64 0, .int .i64 0, .int .i64 0, .int .i64 0, .bool false] := by unfold ZR; kernel_rfl
theorem zr_67 : ZR Try.prog 67 [.int .i64 0, .int .i64 0, .int .i64 0] := by unfold ZR; kernel_rfl
theorem zr_70 : ZR Try.prog 70 [.bool false, .bool false, .bool false, .bool false, .bool false, .bool false, .bool false, .bool false] := by unfold ZR; kernel_rfl
theorem zr_77 : ZR Try.prog 77 [.slice Option.none 0 0, .slice Option.none 0 0] := by unfold ZR; kernel_rfl
theorem zr_86 : ZR Try.prog 86 [.slice Option.none 0 0, .int .i64 0, .slice Option.none 0 0, .slice Option.none 0 0] := by unfold ZR; kernel_rfl
theorem zr_92 : ZR Try.prog 92 [.int .i64 0, .int .i64 0] := by unfold ZR; kernel_rfl
end Go.Proofs.Ytmakdilmibjpbab
