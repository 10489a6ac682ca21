/- Closed facts of the tables of this program. -/
import Derived.Test.YtmakdilmibjpbaaRows
import Derived.Test.YtmakdilmibjpbaaDel
import Derived.KernelRfl
namespace Go.Proofs.Ytmakdilmibjpbaa
open Go
theorem cf_14 : cfB Try.prog 14 = true := by kernel_rfl
theorem cf_15 : cfB Try.prog 15 = true := by kernel_rfl
theorem cf_16 : cfB Try.prog 16 = true := by kernel_rfl
theorem cf_17 : cfB Try.prog 17 = true := by kernel_rfl
theorem cf_18 : cfB Try.prog 18 = true := by kernel_rfl
theorem cf_19 : cfB Try.prog 19 = true := by kernel_rfl
theorem cf_20 : cfB Try.prog 20 = true := by kernel_rfl
theorem cf_21 : cfB Try.prog 21 = true := by kernel_rfl
theorem cf_22 : cfB Try.prog 22 = true := by kernel_rfl
theorem cf_23 : cfB Try.prog 23 = true := by kernel_rfl
theorem cf_24 : cfB Try.prog 24 = true := by kernel_rfl
theorem cf_25 : cfB Try.prog 25 = true := by kernel_rfl
theorem cf_26 : cfB Try.prog 26 = true := by kernel_rfl
theorem cf_27 : cfB Try.prog 27 = true := by kernel_rfl
theorem cf_28 : cfB Try.prog 28 = true := by kernel_rfl
theorem cf_29 : cfB Try.prog 29 = true := by kernel_rfl
theorem cf_30 : cfB Try.prog 30 = true := by kernel_rfl
theorem cf_31 : cfB Try.prog 31 = true := by kernel_rfl
theorem cf_32 : cfB Try.prog 32 = true := by kernel_rfl
theorem cf_33 : cfB Try.prog 33 = true := by kernel_rfl
theorem cf_34 : cfB Try.prog 34 = true := by kernel_rfl
theorem cf_35 : cfB Try.prog 35 = true := by kernel_rfl
theorem cf_49 : cfB Try.prog 49 = true := by kernel_rfl
theorem cf_50 : cfB Try.prog 50 = true := by kernel_rfl
theorem cf_51 : cfB Try.prog 51 = true := by kernel_rfl
theorem cf_52 : cfB Try.prog 52 = true := by kernel_rfl
theorem el_3 : EL Try.prog 3 1 8 := elB.EL (by kernel_rfl)
theorem el_31 : EL Try.prog 31 6 48 := elB.EL (by kernel_rfl)
theorem fa_31_1 : faB Try.prog 31 1 1 = true := by kernel_rfl
theorem fa_33_0 : faB Try.prog 33 0 0 = true := by kernel_rfl
theorem fa_33_1 : faB Try.prog 33 1 1 = true := by kernel_rfl
theorem fa_33_2 : faB Try.prog 33 2 2 = true := by kernel_rfl
theorem fa_45_0 : faB Try.prog 45 0 0 = true := by kernel_rfl
theorem fa_45_1 : faB Try.prog 45 1 1 = true := by kernel_rfl
theorem fa_45_2 : faB Try.prog 45 2 2 = true := by kernel_rfl
theorem fa_73_0 : faB Try.prog 73 0 0 = true := by kernel_rfl
theorem mo : Try.prog.follows .mixedOrders = true := by kernel_rfl
theorem pl_31 : PL Try.prog 31 [(0, 1), (1, 1), (2, 1), (3, 2), (5, 1)] := ⟨_, Try.underlying31, by kernel_rfl⟩
theorem pl_45 : PL Try.prog 45 [(0, 1), (1, 1), (2, 1)] := ⟨_, Try.underlying45, by kernel_rfl⟩
theorem pl_73 : PL Try.prog 73 [(0, 1)] := ⟨_, Try.underlying73, by kernel_rfl⟩
theorem ta_31 : taB Try.prog 31 6 = true := by kernel_rfl
theorem ta_33 : taB Try.prog 33 8 = true := by kernel_rfl
theorem ta_45 : taB Try.prog 45 3 = true := by kernel_rfl
theorem tc_26 : tcB Try.prog 26 = true := by kernel_rfl
theorem tc_27 : tcB Try.prog 27 = true := by kernel_rfl
theorem tc_3 : tcB Try.prog 3 = true := by kernel_rfl
theorem tc_4 : tcB Try.prog 4 = true := by kernel_rfl
theorem zo_31 : zoB Try.prog 31 = true := by kernel_rfl
theorem zr_27 : ZR Try.prog 27 [.slice Option.none 0 0] := by unfold ZR; kernel_rfl
theorem zr_3 : ZR Try.prog 3 [.int .i64 0] := by unfold ZR; kernel_rfl
theorem zr_31 : ZR Try.prog 31 [.int .i64 0, .int .i64 0, .int .i64 0, .int .i64 0, .int .i64 0, .bool false] := by unfold ZR; kernel_rfl
theorem zr_33 : ZR Try.prog 33 [.int .i64 0, .int .i64 0, .int .i64 0, .int .i64 0, .int .i64 0, .int .i64 0, .int .i64 0, .bool false] := by unfold ZR; kernel_rfl
theorem zr_45 : ZR Try.prog 45 [.int .i64 0, .int .i64 0, .int .i64 0] := by unfold ZR; kernel_rfl
theorem zr_73 : ZR Try.prog 73 [.slice Option.none 0 0] := by unfold ZR; kernel_rfl
end Go.Proofs.Ytmakdilmibjpbaa
