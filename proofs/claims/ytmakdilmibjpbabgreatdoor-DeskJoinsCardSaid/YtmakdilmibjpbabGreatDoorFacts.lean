/- Closed facts of the tables of this program. -/
import Derived.Test.YtmakdilmibjpbabGreatDoorRows
import Derived.Test.YtmakdilmibjpbabGreatDoorTiny
import Derived.KernelRfl
namespace Go.Proofs.YtmakdilmibjpbabGreatDoor
open Go
theorem cf_10 : cfB Tryz.prog 10 = true := by kernel_rfl
theorem cf_100 : cfB Tryz.prog 100 = true := by kernel_rfl
theorem cf_101 : cfB Tryz.prog 101 = true := by kernel_rfl
theorem cf_102 : cfB Tryz.prog 102 = true := by kernel_rfl
theorem cf_103 : cfB Tryz.prog 103 = true := by kernel_rfl
theorem cf_104 : cfB Tryz.prog 104 = true := by kernel_rfl
theorem cf_105 : cfB Tryz.prog 105 = true := by kernel_rfl
theorem cf_11 : cfB Tryz.prog 11 = true := by kernel_rfl
theorem cf_114 : cfB Tryz.prog 114 = true := by kernel_rfl
theorem cf_115 : cfB Tryz.prog 115 = true := by kernel_rfl
theorem cf_116 : cfB Tryz.prog 116 = true := by kernel_rfl
theorem cf_117 : cfB Tryz.prog 117 = true := by kernel_rfl
theorem cf_118 : cfB Tryz.prog 118 = true := by kernel_rfl
theorem cf_119 : cfB Tryz.prog 119 = true := by kernel_rfl
theorem cf_12 : cfB Tryz.prog 12 = true := by kernel_rfl
theorem cf_120 : cfB Tryz.prog 120 = true := by kernel_rfl
theorem cf_126 : cfB Tryz.prog 126 = true := by kernel_rfl
theorem cf_127 : cfB Tryz.prog 127 = true := by kernel_rfl
theorem cf_128 : cfB Tryz.prog 128 = true := by kernel_rfl
theorem cf_129 : cfB Tryz.prog 129 = true := by kernel_rfl
theorem cf_13 : cfB Tryz.prog 13 = true := by kernel_rfl
theorem cf_130 : cfB Tryz.prog 130 = true := by kernel_rfl
theorem cf_131 : cfB Tryz.prog 131 = true := by kernel_rfl
theorem cf_134 : cfB Tryz.prog 134 = true := by kernel_rfl
theorem cf_135 : cfB Tryz.prog 135 = true := by kernel_rfl
theorem cf_136 : cfB Tryz.prog 136 = true := by kernel_rfl
theorem cf_137 : cfB Tryz.prog 137 = true := by kernel_rfl
theorem cf_138 : cfB Tryz.prog 138 = true := by kernel_rfl
theorem cf_139 : cfB Tryz.prog 139 = true := by kernel_rfl
theorem cf_14 : cfB Tryz.prog 14 = true := by kernel_rfl
theorem cf_140 : cfB Tryz.prog 140 = true := by kernel_rfl
theorem cf_141 : cfB Tryz.prog 141 = true := by kernel_rfl
theorem cf_15 : cfB Tryz.prog 15 = true := by kernel_rfl
theorem cf_17 : cfB Tryz.prog 17 = true := by kernel_rfl
theorem cf_18 : cfB Tryz.prog 18 = true := by kernel_rfl
theorem cf_19 : cfB Tryz.prog 19 = true := by kernel_rfl
theorem cf_20 : cfB Tryz.prog 20 = true := by kernel_rfl
theorem cf_21 : cfB Tryz.prog 21 = true := by kernel_rfl
theorem cf_22 : cfB Tryz.prog 22 = true := by kernel_rfl
theorem cf_23 : cfB Tryz.prog 23 = true := by kernel_rfl
theorem cf_24 : cfB Tryz.prog 24 = true := by kernel_rfl
theorem cf_25 : cfB Tryz.prog 25 = true := by kernel_rfl
theorem cf_27 : cfB Tryz.prog 27 = true := by kernel_rfl
theorem cf_31 : cfB Tryz.prog 31 = true := by kernel_rfl
theorem cf_32 : cfB Tryz.prog 32 = true := by kernel_rfl
theorem cf_33 : cfB Tryz.prog 33 = true := by kernel_rfl
theorem cf_34 : cfB Tryz.prog 34 = true := by kernel_rfl
theorem cf_35 : cfB Tryz.prog 35 = true := by kernel_rfl
theorem cf_36 : cfB Tryz.prog 36 = true := by kernel_rfl
theorem cf_37 : cfB Tryz.prog 37 = true := by kernel_rfl
theorem cf_38 : cfB Tryz.prog 38 = true := by kernel_rfl
theorem cf_39 : cfB Tryz.prog 39 = true := by kernel_rfl
theorem cf_4 : cfB Tryz.prog 4 = true := by kernel_rfl
theorem cf_40 : cfB Tryz.prog 40 = true := by kernel_rfl
theorem cf_41 : cfB Tryz.prog 41 = true := by kernel_rfl
theorem cf_42 : cfB Tryz.prog 42 = true := by kernel_rfl
theorem cf_43 : cfB Tryz.prog 43 = true := by kernel_rfl
theorem cf_44 : cfB Tryz.prog 44 = true := by kernel_rfl
theorem cf_45 : cfB Tryz.prog 45 = true := by kernel_rfl
theorem cf_46 : cfB Tryz.prog 46 = true := by kernel_rfl
theorem cf_47 : cfB Tryz.prog 47 = true := by kernel_rfl
theorem cf_48 : cfB Tryz.prog 48 = true := by kernel_rfl
theorem cf_5 : cfB Tryz.prog 5 = true := by kernel_rfl
theorem cf_6 : cfB Tryz.prog 6 = true := by kernel_rfl
theorem cf_61 : cfB Tryz.prog 61 = true := by kernel_rfl
theorem cf_63 : cfB Tryz.prog 63 = true := by kernel_rfl
theorem cf_64 : cfB Tryz.prog 64 = true := by kernel_rfl
theorem cf_65 : cfB Tryz.prog 65 = true := by kernel_rfl
theorem cf_66 : cfB Tryz.prog 66 = true := by kernel_rfl
theorem cf_67 : cfB Tryz.prog 67 = true := by kernel_rfl
theorem cf_68 : cfB Tryz.prog 68 = true := by kernel_rfl
theorem cf_69 : cfB Tryz.prog 69 = true := by kernel_rfl
theorem cf_7 : cfB Tryz.prog 7 = true := by kernel_rfl
theorem cf_70 : cfB Tryz.prog 70 = true := by kernel_rfl
theorem cf_71 : cfB Tryz.prog 71 = true := by kernel_rfl
theorem cf_72 : cfB Tryz.prog 72 = true := by kernel_rfl
theorem cf_73 : cfB Tryz.prog 73 = true := by kernel_rfl
theorem cf_74 : cfB Tryz.prog 74 = true := by kernel_rfl
theorem cf_75 : cfB Tryz.prog 75 = true := by kernel_rfl
theorem cf_76 : cfB Tryz.prog 76 = true := by kernel_rfl
theorem cf_77 : cfB Tryz.prog 77 = true := by kernel_rfl
theorem cf_78 : cfB Tryz.prog 78 = true := by kernel_rfl
theorem cf_79 : cfB Tryz.prog 79 = true := by kernel_rfl
theorem cf_8 : cfB Tryz.prog 8 = true := by kernel_rfl
theorem cf_80 : cfB Tryz.prog 80 = true := by kernel_rfl
theorem cf_81 : cfB Tryz.prog 81 = true := by kernel_rfl
theorem cf_82 : cfB Tryz.prog 82 = true := by kernel_rfl
theorem cf_9 : cfB Tryz.prog 9 = true := by kernel_rfl
theorem cf_94 : cfB Tryz.prog 94 = true := by kernel_rfl
theorem cf_95 : cfB Tryz.prog 95 = true := by kernel_rfl
theorem cf_96 : cfB Tryz.prog 96 = true := by kernel_rfl
theorem cf_97 : cfB Tryz.prog 97 = true := by kernel_rfl
theorem cf_98 : cfB Tryz.prog 98 = true := by kernel_rfl
theorem cf_99 : cfB Tryz.prog 99 = true := by kernel_rfl
theorem el_115 : EL Tryz.prog 115 2 16 := elB.EL (by kernel_rfl)
theorem el_126 : EL Tryz.prog 126 1 8 := elB.EL (by kernel_rfl)
theorem el_129 : EL Tryz.prog 129 6 48 := elB.EL (by kernel_rfl)
theorem el_136 : EL Tryz.prog 136 3 24 := elB.EL (by kernel_rfl)
theorem el_184 : EL Tryz.prog 184 5 40 := elB.EL (by kernel_rfl)
theorem el_205 : EL Tryz.prog 205 2 16 := elB.EL (by kernel_rfl)
theorem el_3 : EL Tryz.prog 3 1 8 := elB.EL (by kernel_rfl)
theorem el_4 : EL Tryz.prog 4 1 1 := elB.EL (by kernel_rfl)
theorem el_5 : EL Tryz.prog 5 1 1 := elB.EL (by kernel_rfl)
theorem el_9 : EL Tryz.prog 9 1 16 := elB.EL (by kernel_rfl)
theorem fa_102_0 : faB Tryz.prog 102 0 0 = true := by kernel_rfl
theorem fa_102_1 : faB Tryz.prog 102 1 1 = true := by kernel_rfl
theorem fa_102_2 : faB Tryz.prog 102 2 2 = true := by kernel_rfl
theorem fa_102_3 : faB Tryz.prog 102 3 8 = true := by kernel_rfl
theorem fa_115_0 : faB Tryz.prog 115 0 0 = true := by kernel_rfl
theorem fa_115_1 : faB Tryz.prog 115 1 1 = true := by kernel_rfl
theorem fa_117_0 : faB Tryz.prog 117 0 0 = true := by kernel_rfl
theorem fa_117_1 : faB Tryz.prog 117 1 1 = true := by kernel_rfl
theorem fa_117_2 : faB Tryz.prog 117 2 2 = true := by kernel_rfl
theorem fa_125_0 : faB Tryz.prog 125 0 0 = true := by kernel_rfl
theorem fa_125_1 : faB Tryz.prog 125 1 1 = true := by kernel_rfl
theorem fa_125_2 : faB Tryz.prog 125 2 2 = true := by kernel_rfl
theorem fa_125_3 : faB Tryz.prog 125 3 3 = true := by kernel_rfl
theorem fa_129_0 : faB Tryz.prog 129 0 0 = true := by kernel_rfl
theorem fa_129_1 : faB Tryz.prog 129 1 1 = true := by kernel_rfl
theorem fa_129_2 : faB Tryz.prog 129 2 2 = true := by kernel_rfl
theorem fa_129_3 : faB Tryz.prog 129 3 3 = true := by kernel_rfl
theorem fa_129_4 : faB Tryz.prog 129 4 5 = true := by kernel_rfl
theorem fa_136_0 : faB Tryz.prog 136 0 0 = true := by kernel_rfl
theorem fa_136_1 : faB Tryz.prog 136 1 1 = true := by kernel_rfl
theorem fa_136_2 : faB Tryz.prog 136 2 2 = true := by kernel_rfl
theorem fa_139_0 : faB Tryz.prog 139 0 0 = true := by kernel_rfl
theorem fa_139_1 : faB Tryz.prog 139 1 1 = true := by kernel_rfl
theorem fa_139_2 : faB Tryz.prog 139 2 7 = true := by kernel_rfl
theorem fa_139_3 : faB Tryz.prog 139 3 8 = true := by kernel_rfl
theorem fa_184_0 : faB Tryz.prog 184 0 0 = true := by kernel_rfl
theorem fa_184_1 : faB Tryz.prog 184 1 1 = true := by kernel_rfl
theorem fa_184_2 : faB Tryz.prog 184 2 2 = true := by kernel_rfl
theorem fa_184_3 : faB Tryz.prog 184 3 3 = true := by kernel_rfl
theorem fa_184_4 : faB Tryz.prog 184 4 4 = true := by kernel_rfl
theorem fa_205_0 : faB Tryz.prog 205 0 0 = true := by kernel_rfl
theorem fa_205_1 : faB Tryz.prog 205 1 1 = true := by kernel_rfl
theorem fa_29_0 : faB Tryz.prog 29 0 0 = true := by kernel_rfl
theorem fa_40_0 : faB Tryz.prog 40 0 0 = true := by kernel_rfl
theorem fa_40_1 : faB Tryz.prog 40 1 1 = true := by kernel_rfl
theorem fa_42_0 : faB Tryz.prog 42 0 0 = true := by kernel_rfl
theorem fa_42_1 : faB Tryz.prog 42 1 2 = true := by kernel_rfl
theorem fa_53_0 : faB Tryz.prog 53 0 0 = true := by kernel_rfl
theorem fa_53_1 : faB Tryz.prog 53 1 1 = true := by kernel_rfl
theorem fa_53_2 : faB Tryz.prog 53 2 7 = true := by kernel_rfl
theorem fa_53_3 : faB Tryz.prog 53 3 10 = true := by kernel_rfl
theorem fa_70_0 : faB Tryz.prog 70 0 0 = true := by kernel_rfl
theorem fa_70_1 : faB Tryz.prog 70 1 1 = true := by kernel_rfl
theorem fa_73_0 : faB Tryz.prog 73 0 0 = true := by kernel_rfl
theorem fa_77_0 : faB Tryz.prog 77 0 0 = true := by kernel_rfl
theorem fa_77_1 : faB Tryz.prog 77 1 1 = true := by kernel_rfl
theorem fa_87_0 : faB Tryz.prog 87 0 0 = true := by kernel_rfl
theorem fa_87_1 : faB Tryz.prog 87 1 1 = true := by kernel_rfl
theorem fa_87_2 : faB Tryz.prog 87 2 2 = true := by kernel_rfl
theorem mo : Tryz.prog.follows .mixedOrders = true := by kernel_rfl
theorem pl_102 : PL Tryz.prog 102 [(0, 1), (1, 1), (2, 6), (8, 1)] := ⟨_, Tryz.underlying102, by kernel_rfl⟩
theorem pl_115 : PL Tryz.prog 115 [(0, 1), (1, 1)] := ⟨_, Tryz.underlying115, by kernel_rfl⟩
theorem pl_117 : PL Tryz.prog 117 [(0, 1), (1, 1), (2, 1)] := ⟨_, Tryz.underlying117, by kernel_rfl⟩
theorem pl_125 : PL Tryz.prog 125 [(0, 1), (1, 1), (2, 1), (3, 1)] := ⟨_, Tryz.underlying125, by kernel_rfl⟩
theorem pl_129 : PL Tryz.prog 129 [(0, 1), (1, 1), (2, 1), (3, 2), (5, 1)] := ⟨_, Tryz.underlying129, by kernel_rfl⟩
theorem pl_136 : PL Tryz.prog 136 [(0, 1), (1, 1), (2, 1)] := ⟨_, Tryz.underlying136, by kernel_rfl⟩
theorem pl_139 : PL Tryz.prog 139 [(0, 1), (1, 6), (7, 1), (8, 1)] := ⟨_, Tryz.underlying139, by kernel_rfl⟩
theorem pl_184 : PL Tryz.prog 184 [(0, 1), (1, 1), (2, 1), (3, 1), (4, 1)] := ⟨_, Tryz.underlying184, by kernel_rfl⟩
theorem pl_205 : PL Tryz.prog 205 [(0, 1), (1, 1)] := ⟨_, Tryz.underlying205, by kernel_rfl⟩
theorem pl_29 : PL Tryz.prog 29 [(0, 1), (1, 1)] := ⟨_, Tryz.underlying29, by kernel_rfl⟩
theorem pl_42 : PL Tryz.prog 42 [(0, 2), (2, 1)] := ⟨_, Tryz.underlying42, by kernel_rfl⟩
theorem pl_53 : PL Tryz.prog 53 [(0, 1), (1, 6), (7, 3), (10, 1)] := ⟨_, Tryz.underlying53, by kernel_rfl⟩
theorem pl_70 : PL Tryz.prog 70 [(0, 1), (1, 1)] := ⟨_, Tryz.underlying70, by kernel_rfl⟩
theorem pl_73 : PL Tryz.prog 73 [(0, 1)] := ⟨_, Tryz.underlying73, by kernel_rfl⟩
theorem pl_77 : PL Tryz.prog 77 [(0, 1), (1, 1)] := ⟨_, Tryz.underlying77, by kernel_rfl⟩
theorem pl_87 : PL Tryz.prog 87 [(0, 1), (1, 1), (2, 1)] := ⟨_, Tryz.underlying87, by kernel_rfl⟩
theorem ta_115 : taB Tryz.prog 115 2 = true := by kernel_rfl
theorem ta_117 : taB Tryz.prog 117 3 = true := by kernel_rfl
theorem ta_118 : taB Tryz.prog 118 6 = true := by kernel_rfl
theorem ta_129 : taB Tryz.prog 129 6 = true := by kernel_rfl
theorem ta_136 : taB Tryz.prog 136 3 = true := by kernel_rfl
theorem ta_184 : taB Tryz.prog 184 5 = true := by kernel_rfl
theorem ta_205 : taB Tryz.prog 205 2 = true := by kernel_rfl
theorem ta_29 : taB Tryz.prog 29 2 = true := by kernel_rfl
theorem ta_34 : taB Tryz.prog 34 6 = true := by kernel_rfl
theorem ta_51 : taB Tryz.prog 51 3 = true := by kernel_rfl
theorem ta_87 : taB Tryz.prog 87 3 = true := by kernel_rfl
theorem tc_100 : tcB Tryz.prog 100 = true := by kernel_rfl
theorem tc_123 : tcB Tryz.prog 123 = true := by kernel_rfl
theorem tc_126 : tcB Tryz.prog 126 = true := by kernel_rfl
theorem tc_133 : tcB Tryz.prog 133 = true := by kernel_rfl
theorem tc_137 : tcB Tryz.prog 137 = true := by kernel_rfl
theorem tc_3 : tcB Tryz.prog 3 = true := by kernel_rfl
theorem tc_35 : tcB Tryz.prog 35 = true := by kernel_rfl
theorem tc_37 : tcB Tryz.prog 37 = true := by kernel_rfl
theorem tc_38 : tcB Tryz.prog 38 = true := by kernel_rfl
theorem tc_4 : tcB Tryz.prog 4 = true := by kernel_rfl
theorem tc_46 : tcB Tryz.prog 46 = true := by kernel_rfl
theorem tc_48 : tcB Tryz.prog 48 = true := by kernel_rfl
theorem tc_50 : tcB Tryz.prog 50 = true := by kernel_rfl
theorem tc_59 : tcB Tryz.prog 59 = true := by kernel_rfl
theorem tc_68 : tcB Tryz.prog 68 = true := by kernel_rfl
theorem tc_71 : tcB Tryz.prog 71 = true := by kernel_rfl
theorem tc_74 : tcB Tryz.prog 74 = true := by kernel_rfl
theorem tc_85 : tcB Tryz.prog 85 = true := by kernel_rfl
theorem tc_9 : tcB Tryz.prog 9 = true := by kernel_rfl
theorem tc_98 : tcB Tryz.prog 98 = true := by kernel_rfl
theorem zo_129 : zoB Tryz.prog 129 = true := by kernel_rfl
theorem zo_9 : zoB Tryz.prog 9 = true := by kernel_rfl
theorem zr_102 : ZR Tryz.prog 102 [.pointer Option.none, .int .i64 0, .int .i64 0, .int .i64 0, .int .i64 0, .int .i64 0, .int .i64 0, .int .i64 0, .slice Option.none 0 0] := by unfold ZR; kernel_rfl
theorem zr_115 : ZR Tryz.prog 115 [.int .i64 0, .int .i64 0] := by unfold ZR; kernel_rfl
theorem zr_117 : ZR Tryz.prog 117 [.int .i64 0, .int .i64 0, .int .i64 0] := by unfold ZR; kernel_rfl
theorem zr_118 : ZR Tryz.prog 118 [.int .i64 0, .int .i64 0, .int .i64 0, .int .i64 0, .int .i64 0, .int .i64 0] := by unfold ZR; kernel_rfl
theorem zr_125 : ZR Tryz.prog 125 [.slice Option.none 0 0, .int .i64 0, .slice Option.none 0 0, .slice Option.none 0 0] := by unfold ZR; kernel_rfl
theorem zr_126 : ZR Tryz.prog 126 [.pointer Option.none] := by unfold ZR; kernel_rfl
theorem zr_129 : ZR Tryz.prog 129 [.int .i64 0, .int .i64 0, .int .i64 0, .int .i64 0, .int .i64 0, .bool false] := by unfold ZR; kernel_rfl
theorem zr_136 : ZR Tryz.prog 136 [.int .i64 0, .int .i64 0, .int .i64 0] := by unfold ZR; kernel_rfl
theorem zr_139 : ZR Tryz.prog 139 [.int .i64 0, .int .i64 0, .int .i64 0, .int .i64 0, .int .i64 0, .int .i64 0, .int .i64 0, .slice Option.none 0 0, .slice Option.none 0 0] := by unfold ZR; kernel_rfl
theorem zr_184 : ZR Tryz.prog 184 [.int .i64 0, .int .i64 0, .int .i64 0, .int .i64 0, .bool false] := by unfold ZR; kernel_rfl
theorem zr_205 : ZR Tryz.prog 205 [.int .i64 0, .bool false] := by unfold ZR; kernel_rfl
theorem zr_29 : ZR Tryz.prog 29 [.int .i64 0, .int .i64 0] := by unfold ZR; kernel_rfl
theorem zr_3 : ZR Tryz.prog 3 [.int .i64 0] := by unfold ZR; kernel_rfl
theorem zr_34 : ZR Tryz.prog 34 [.int .i64 0, .int .i64 0, .int .i64 0, .int .i64 0, .int .i64 0, .int .i64 0] := by unfold ZR; kernel_rfl
theorem zr_4 : ZR Tryz.prog 4 [.bool false] := by unfold ZR; kernel_rfl
theorem zr_42 : ZR Tryz.prog 42 [.pointer Option.none, .slice Option.none 0 0, .pointer Option.none] := by unfold ZR; kernel_rfl
theorem zr_53 : ZR Tryz.prog 53 [.pointer Option.none, .int .i64 0, .int .i64 0, .int .i64 0, .int .i64 0, .int .i64 0, .int .i64 0, .pointer Option.none, .pointer Option.none, .pointer Option.none, .pointer Option.none] := by unfold ZR; kernel_rfl
theorem zr_70 : ZR Tryz.prog 70 [.slice Option.none 0 0, .slice Option.none 0 0] := by unfold ZR; kernel_rfl
theorem zr_73 : ZR Tryz.prog 73 [.slice Option.none 0 0] := by unfold ZR; kernel_rfl
theorem zr_77 : ZR Tryz.prog 77 [.pointer Option.none, .int .i64 0] := by unfold ZR; kernel_rfl
theorem zr_87 : ZR Tryz.prog 87 [.int .i64 0, .int .i64 0, .slice Option.none 0 0] := by unfold ZR; kernel_rfl
theorem zr_9 : ZR Tryz.prog 9 [.string ByteArray.empty] := by unfold ZR; kernel_rfl
end Go.Proofs.YtmakdilmibjpbabGreatDoor
