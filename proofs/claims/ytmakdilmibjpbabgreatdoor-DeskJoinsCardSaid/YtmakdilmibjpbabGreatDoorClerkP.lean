/- Clerks: how they lie. -/
import Derived.Test.YtmakdilmibjpbabGreatDoorAns
import Derived.Test.YtmakdilmibjpbabGreatDoorKeepP
namespace Go.Proofs.YtmakdilmibjpbabGreatDoor
open Go Go.RowKit
set_option linter.unusedVariables false
set_option maxRecDepth 20000

abbrev clL (b : Nat) (k : KeepS) (kb : Nat) : List HP := [blk b [ptr kb, .int .i64 k.no] 77, keepP kb k]
def clerkP (b : Nat) (k : KeepS) : HP := exS fun kb => clL b k kb
variable {H R R1 : List HP} {b : Nat} {k : KeepS}
theorem clerkP_close (kb : Nat) {cs : List Value} [a : SelB H b cs 77 R] [t : SelX R (keepP kb k) R1] (e : cs = [ptr kb, .int .i64 k.no]) : Ent H (clerkP b k :: R1) := by
  subst e
  exact Ent.tr (Ent.tr a.ent (Ent.mono t.ent)) (Ent.ex (L := fun kb => clL b k kb) kb)

end Go.Proofs.YtmakdilmibjpbabGreatDoor
