/- Closed facts of the tables of this program. -/
import Derived.Test.YtmakdilmibjpbaaRows
import Derived.Test.YtmakdilmibjpbaaDel
import Derived.KernelRfl
namespace Go.Proofs.Ytmakdilmibjpbaa
open Go
theorem cf_30 : cfB Try.prog 30 = true := by kernel_rfl
theorem cf_31 : cfB Try.prog 31 = true := by kernel_rfl
theorem cf_32 : cfB Try.prog 32 = true := by kernel_rfl
theorem cf_33 : cfB Try.prog 33 = true := by kernel_rfl
theorem cf_36 : cfB Try.prog 36 = true := by kernel_rfl
theorem cf_37 : cfB Try.prog 37 = true := by kernel_rfl
theorem cf_38 : cfB Try.prog 38 = true := by kernel_rfl
theorem cf_39 : cfB Try.prog 39 = true := by kernel_rfl
theorem cf_40 : cfB Try.prog 40 = true := by kernel_rfl
theorem cf_41 : cfB Try.prog 41 = true := by kernel_rfl
theorem cf_42 : cfB Try.prog 42 = true := by kernel_rfl
theorem cf_43 : cfB Try.prog 43 = true := by kernel_rfl
theorem cf_44 : cfB Try.prog 44 = true := by kernel_rfl
theorem cf_45 : cfB Try.prog 45 = true := by kernel_rfl
theorem cf_46 : cfB Try.prog 46 = true := by kernel_rfl
theorem cf_47 : cfB Try.prog 47 = true := by kernel_rfl
theorem cf_48 : cfB Try.prog 48 = true := by kernel_rfl
theorem cf_53 : cfB Try.prog 53 = true := by kernel_rfl
theorem el_29 : EL Try.prog 29 2 16 := elB.EL (by kernel_rfl)
theorem el_3 : EL Try.prog 3 1 8 := elB.EL (by kernel_rfl)
theorem fa_29_0 : faB Try.prog 29 0 0 = true := by kernel_rfl
theorem fa_29_1 : faB Try.prog 29 1 1 = true := by kernel_rfl
theorem fa_45_0 : faB Try.prog 45 0 0 = true := by kernel_rfl
theorem fa_45_1 : faB Try.prog 45 1 1 = true := by kernel_rfl
theorem fa_45_2 : faB Try.prog 45 2 2 = true := by kernel_rfl
theorem fa_62_0 : faB Try.prog 62 0 0 = true := by kernel_rfl
theorem fa_62_1 : faB Try.prog 62 1 1 = true := by kernel_rfl
theorem mo : Try.prog.follows .mixedOrders = true := by kernel_rfl
theorem pl_29 : PL Try.prog 29 [(0, 1), (1, 1)] := ⟨_, Try.underlying29, by kernel_rfl⟩
theorem pl_45 : PL Try.prog 45 [(0, 1), (1, 1), (2, 1)] := ⟨_, Try.underlying45, by kernel_rfl⟩
theorem pl_62 : PL Try.prog 62 [(0, 1), (1, 1)] := ⟨_, Try.underlying62, by kernel_rfl⟩
theorem ta_29 : taB Try.prog 29 2 = true := by kernel_rfl
theorem ta_45 : taB Try.prog 45 3 = true := by kernel_rfl
theorem ta_59 : taB Try.prog 59 6 = true := by kernel_rfl
theorem ta_62 : taB Try.prog 62 2 = true := by kernel_rfl
theorem tc_3 : tcB Try.prog 3 = true := by kernel_rfl
theorem tc_4 : tcB Try.prog 4 = true := by kernel_rfl
theorem zr_29 : ZR Try.prog 29 [.int .i64 0, .int .i64 0] := by unfold ZR; kernel_rfl
theorem zr_3 : ZR Try.prog 3 [.int .i64 0] := by unfold ZR; kernel_rfl
theorem zr_45 : ZR Try.prog 45 [.int .i64 0, .int .i64 0, .int .i64 0] := by unfold ZR; kernel_rfl
theorem zr_59 : ZR Try.prog 59 [.int .i64 0, .int .i64 0, .int .i64 0, .int .i64 0, .int .i64 0, .int .i64 0] := by unfold ZR; kernel_rfl
theorem zr_62 : ZR Try.prog 62 [.int .i64 0, .int .i64 0] := by unfold ZR; kernel_rfl
theorem zr_70 : ZR Try.prog 70 [.bool false, .bool false, .bool false] := by unfold ZR; kernel_rfl
end Go.Proofs.Ytmakdilmibjpbaa
