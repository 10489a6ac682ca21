/- Closed facts of the tables of this program. -/
import Derived.Test.YtmakdilmibjpbabRows
import Derived.Test.YtmakdilmibjpbabDel
import Derived.KernelRfl
namespace Go.Proofs.Ytmakdilmibjpbab
open Go
theorem cf_19 : cfB Try.prog 19 = true := by kernel_rfl
theorem cf_23 : cfB Try.prog 23 = true := by kernel_rfl
theorem cf_25 : cfB Try.prog 25 = true := by kernel_rfl
theorem cf_27 : cfB Try.prog 27 = true := by kernel_rfl
theorem cf_29 : cfB Try.prog 29 = true := by kernel_rfl
theorem cf_30 : cfB Try.prog 30 = true := by kernel_rfl
theorem cf_31 : cfB Try.prog 31 = true := by kernel_rfl
theorem cf_32 : cfB Try.prog 32 = true := by kernel_rfl
theorem cf_33 : cfB Try.prog 33 = true := by kernel_rfl
theorem cf_34 : cfB Try.prog 34 = true := by kernel_rfl
theorem cf_35 : cfB Try.prog 35 = true := by kernel_rfl
theorem cf_67 : cfB Try.prog 67 = true := by kernel_rfl
theorem cf_68 : cfB Try.prog 68 = true := by kernel_rfl
theorem cf_69 : cfB Try.prog 69 = true := by kernel_rfl
theorem cf_70 : cfB Try.prog 70 = true := by kernel_rfl
theorem cf_71 : cfB Try.prog 71 = true := by kernel_rfl
theorem cf_80 : cfB Try.prog 80 = true := by kernel_rfl
theorem cf_87 : cfB Try.prog 87 = true := by kernel_rfl
theorem cf_89 : cfB Try.prog 89 = true := by kernel_rfl
theorem cf_90 : cfB Try.prog 90 = true := by kernel_rfl
theorem cf_91 : cfB Try.prog 91 = true := by kernel_rfl
theorem cf_96 : cfB Try.prog 96 = true := by kernel_rfl
theorem cf_97 : cfB Try.prog 97 = true := by kernel_rfl
theorem el_124 : EL Try.prog 124 2 16 := elB.EL (by kernel_rfl)
theorem el_3 : EL Try.prog 3 1 8 := elB.EL (by kernel_rfl)
theorem el_67 : EL Try.prog 67 3 24 := elB.EL (by kernel_rfl)
theorem fa_124_0 : faB Try.prog 124 0 0 = true := by kernel_rfl
theorem fa_124_1 : faB Try.prog 124 1 1 = true := by kernel_rfl
theorem fa_127_0 : faB Try.prog 127 0 0 = true := by kernel_rfl
theorem fa_127_1 : faB Try.prog 127 1 1 = true := by kernel_rfl
theorem fa_127_2 : faB Try.prog 127 2 7 = true := by kernel_rfl
theorem fa_127_3 : faB Try.prog 127 3 8 = true := by kernel_rfl
theorem fa_35_0 : faB Try.prog 35 0 0 = true := by kernel_rfl
theorem fa_35_1 : faB Try.prog 35 1 1 = true := by kernel_rfl
theorem fa_51_0 : faB Try.prog 51 0 0 = true := by kernel_rfl
theorem fa_51_1 : faB Try.prog 51 1 1 = true := by kernel_rfl
theorem fa_51_2 : faB Try.prog 51 2 2 = true := by kernel_rfl
theorem fa_63_0 : faB Try.prog 63 0 0 = true := by kernel_rfl
theorem fa_63_1 : faB Try.prog 63 1 1 = true := by kernel_rfl
theorem fa_63_2 : faB Try.prog 63 2 2 = true := by kernel_rfl
theorem fa_63_3 : faB Try.prog 63 3 4 = true := by kernel_rfl
theorem fa_67_0 : faB Try.prog 67 0 0 = true := by kernel_rfl
theorem fa_67_1 : faB Try.prog 67 1 1 = true := by kernel_rfl
theorem fa_67_2 : faB Try.prog 67 2 2 = true := by kernel_rfl
theorem mo : Try.prog.follows .mixedOrders = true := by kernel_rfl
theorem pl_124 : PL Try.prog 124 [(0, 1), (1, 1)] := ⟨_, Try.underlying124, by kernel_rfl⟩
theorem pl_127 : PL Try.prog 127 [(0, 1), (1, 6), (7, 1), (8, 1)] := ⟨_, Try.underlying127, by kernel_rfl⟩
theorem pl_35 : PL Try.prog 35 [(0, 1), (1, 1)] := ⟨_, Try.underlying35, by kernel_rfl⟩
theorem pl_51 : PL Try.prog 51 [(0, 1), (1, 1), (2, 1)] := ⟨_, Try.underlying51, by kernel_rfl⟩
theorem pl_67 : PL Try.prog 67 [(0, 1), (1, 1), (2, 1)] := ⟨_, Try.underlying67, by kernel_rfl⟩
theorem pl_92 : PL Try.prog 92 [(0, 1), (1, 1)] := ⟨_, Try.underlying92, by kernel_rfl⟩
theorem ta_124 : taB Try.prog 124 2 = true := by kernel_rfl
theorem ta_35 : taB Try.prog 35 2 = true := by kernel_rfl
theorem ta_42 : taB Try.prog 42 6 = true := by kernel_rfl
theorem ta_51 : taB Try.prog 51 3 = true := by kernel_rfl
theorem ta_52 : taB Try.prog 52 6 = true := by kernel_rfl
theorem ta_63 : taB Try.prog 63 5 = true := by kernel_rfl
theorem ta_67 : taB Try.prog 67 3 = true := by kernel_rfl
theorem ta_92 : taB Try.prog 92 2 = true := by kernel_rfl
theorem tc_125 : tcB Try.prog 125 = true := by kernel_rfl
theorem tc_3 : tcB Try.prog 3 = true := by kernel_rfl
theorem tc_4 : tcB Try.prog 4 = true := by kernel_rfl
theorem tc_55 : tcB Try.prog 55 = true := by kernel_rfl
theorem zr_124 : ZR Try.prog 124 [.int .i64 0, .bool false] := by unfold ZR; kernel_rfl
theorem zr_127 : ZR Try.prog 127 [.int .i64 0, .int .i64 0, .int .i64 0, .int .i64 0, .int .i64 0, .int .i64 0, .int .i64 0, .slice Option.none 0 0, .slice Option.none 0 0] := by unfold ZR; kernel_rfl
theorem zr_3 : ZR Try.prog 3 [.int .i64 0] := by unfold ZR; kernel_rfl
theorem zr_35 : ZR Try.prog 35 [.int .i64 0, .int .i64 0] := by unfold ZR; kernel_rfl
theorem zr_42 : ZR Try.prog 42 [.int .i64 0, .int .i64 0, .int .i64 0, .int .i64 0, .int .i64 0, .int .i64 0] := by unfold ZR; kernel_rfl
theorem zr_51 : ZR Try.prog 51 [.int .i64 0, .int .i64 0, .int .i64 0] := by unfold ZR; kernel_rfl
theorem zr_52 : ZR Try.prog 52 [.int .i64 0, .int .i64 0, .int .i64 0, .int .i64 0, .int .i64 0, .int .i64 0] := by unfold ZR; kernel_rfl
theorem zr_57 : ZR Try.prog 57 [.int .i64 0, .int .i64 0] := by unfold ZR; kernel_rfl
theorem zr_63 : ZR Try.prog 63 [.int .i64 0, .int .i64 0, .int .i64 0, .int .i64 0, .bool false] := by unfold ZR; kernel_rfl
theorem zr_67 : ZR Try.prog 67 [.int .i64 0, .int .i64 0, .int .i64 0] := by unfold ZR; kernel_rfl
theorem zr_92 : ZR Try.prog 92 [.int .i64 0, .int .i64 0] := by unfold ZR; kernel_rfl
end Go.Proofs.Ytmakdilmibjpbab
