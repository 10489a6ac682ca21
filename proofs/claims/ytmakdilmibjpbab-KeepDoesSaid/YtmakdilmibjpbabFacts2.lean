/- More closed facts of the tables of this program. -/
import Derived.Test.YtmakdilmibjpbabRows
import Derived.Test.YtmakdilmibjpbabDel
import Derived.KernelRfl
import Derived.Test.YtmakdilmibjpbabFacts
namespace Go.Proofs.Ytmakdilmibjpbab
open Go
theorem cf_50 : cfB Try.prog 50 = true := by kernel_rfl
theorem cf_52 : cfB Try.prog 52 = true := by kernel_rfl
theorem cf_54 : cfB Try.prog 54 = true := by kernel_rfl
theorem cf_81 : cfB Try.prog 81 = true := by kernel_rfl
theorem cf_93 : cfB Try.prog 93 = true := by kernel_rfl
theorem fa_107_0 : faB Try.prog 107 0 0 = true := by kernel_rfl
theorem fa_107_1 : faB Try.prog 107 1 1 = true := by kernel_rfl
theorem pl_107 : PL Try.prog 107 [(0, 1), (1, 1)] := ⟨_, Try.underlying107, by kernel_rfl⟩
theorem tc_45 : tcB Try.prog 45 = true := by kernel_rfl
theorem zr_107 : ZR Try.prog 107 [.pointer Option.none, .slice Option.none 0 0] := by unfold ZR; kernel_rfl
end Go.Proofs.Ytmakdilmibjpbab
