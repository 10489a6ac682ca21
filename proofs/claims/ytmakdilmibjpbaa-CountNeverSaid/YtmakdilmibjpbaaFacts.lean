/- Closed facts of the tables of this program. -/
import Derived.Test.YtmakdilmibjpbaaRows
import Derived.Test.YtmakdilmibjpbaaMore
import Derived.KernelRfl
namespace Go.Proofs.Ytmakdilmibjpbaa
open Go
theorem cf_25 : cfB Try.prog 25 = true := by kernel_rfl
theorem cf_26 : cfB Try.prog 26 = true := by kernel_rfl
theorem cf_27 : cfB Try.prog 27 = true := by kernel_rfl
theorem cf_28 : cfB Try.prog 28 = true := by kernel_rfl
theorem cf_29 : cfB Try.prog 29 = true := by kernel_rfl
theorem cf_30 : cfB Try.prog 30 = true := by kernel_rfl
theorem cf_31 : cfB Try.prog 31 = true := by kernel_rfl
theorem cf_32 : cfB Try.prog 32 = true := by kernel_rfl
theorem cf_33 : cfB Try.prog 33 = true := by kernel_rfl
theorem cf_34 : cfB Try.prog 34 = true := by kernel_rfl
theorem cf_35 : cfB Try.prog 35 = true := by kernel_rfl
theorem el_3 : EL Try.prog 3 1 8 := elB.EL (by kernel_rfl)
theorem fa_45_0 : faB Try.prog 45 0 0 = true := by kernel_rfl
theorem fa_45_1 : faB Try.prog 45 1 1 = true := by kernel_rfl
theorem fa_45_2 : faB Try.prog 45 2 2 = true := by kernel_rfl
theorem mo : Try.prog.follows .mixedOrders = true := by kernel_rfl
theorem pl_45 : PL Try.prog 45 [(0, 1), (1, 1), (2, 1)] := ⟨_, Try.underlying45, by kernel_rfl⟩
theorem ta_45 : taB Try.prog 45 3 = true := by kernel_rfl
theorem tc_3 : tcB Try.prog 3 = true := by kernel_rfl
theorem tc_4 : tcB Try.prog 4 = true := by kernel_rfl
theorem zr_3 : ZR Try.prog 3 [.int .i64 0] := by unfold ZR; kernel_rfl
theorem zr_45 : ZR Try.prog 45 [.int .i64 0, .int .i64 0, .int .i64 0] := by unfold ZR; kernel_rfl
end Go.Proofs.Ytmakdilmibjpbaa
