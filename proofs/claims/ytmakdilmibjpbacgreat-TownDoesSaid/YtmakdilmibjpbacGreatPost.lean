/- Mail and posts: what they are in plain Lean, and how they lie. -/
import Derived.Test.YtmakdilmibjpbacGreatPlain
import Derived.Test.YtmakdilmibjpbacGreatDel
import Derived.Test.YtmakdilmibjpbacGreatMails
namespace Go.Proofs.YtmakdilmibjpbacGreat
open Go Go.RowKit
set_option linter.unusedVariables false

def sendL (l : List Mail) (m : Mail) : List Mail := if l.length < 40 then l ++ [m] else l
def takeM (l : List Mail) (n : Int) : Option Mail := l[rnd n l.length]?
def takeL (l : List Mail) (n : Int) : List Mail := l.take (rnd n l.length) ++ l.drop (rnd n l.length + 1)
def dblOk (l : List Mail) : Bool := decide (0 < l.length ∧ l.length < 40)
def dblL (l : List Mail) (n : Int) : List Mail := match takeM l n with | some m => sendL l m | none => l
theorem takeM_nil (n : Int) : takeM [] n = Option.none := by simp [takeM]
theorem takeM_some {l : List Mail} (n : Int) (h : 0 < l.length) : ∃ m, takeM l n = some m := getlt (rnd_lt h)
theorem takeL_nil (n : Int) : takeL [] n = [] := by simp [takeL]
theorem sendL_le {l : List Mail} {m : Mail} (h : l.length ≤ 40) : (sendL l m).length ≤ 40 := by
  unfold sendL; split
  · simp; omega
  · exact h
theorem takeL_le {l : List Mail} {n : Int} (h : l.length ≤ 40) : (takeL l n).length ≤ 40 := by
  simp [takeL]; omega
theorem take_none {l : List Mail} {n : Int} (h : l.length = 0) : takeM l n = Option.none ∧ takeL l n = l := by
  have := List.eq_nil_of_length_eq_zero h; subst this; exact ⟨takeM_nil n, takeL_nil n⟩
theorem dbl_none {l : List Mail} {n : Int} (h : l.length = 0) : dblL l n = l ∧ dblOk l = false := by
  have := List.eq_nil_of_length_eq_zero h; subst this; exact ⟨by simp [dblL, takeM_nil], rfl⟩
theorem dbl_some {l : List Mail} {n : Int} {m : Mail} (h : takeM l n = some m) (h0 : 0 < l.length) : dblL l n = sendL l m ∧ dblOk l = decide (l.length < 40) := by
  refine ⟨by simp [dblL, h], ?_⟩
  simp [dblOk, h0]
theorem at_neg {L : Nat} {n : Int} : ((if L = 0 then (-1 : Int) else (rnd n L : Int)) < 0) ↔ L = 0 := by
  by_cases h : L = 0 <;> simp [h] <;> omega
theorem at_nn {L : Nat} {n : Int} : ((0 : Int) ≤ (if L = 0 then (-1 : Int) else (rnd n L : Int))) ↔ 0 < L := by
  by_cases h : L = 0 <;> simp [h] <;> omega
def postP (b : Nat) (l : List Mail) : HP := exS fun pv => [blk b [pv] 117, sl pv 72 6 (l.map rM)]

variable {H R R1 : List HP} {b : Nat} {pv : Value} {l : List Mail} {rows : List (List Value)}
theorem postP_close [s : SelB H b [pv] 117 R] [t : SelS R pv 72 6 rows R1] (e : rows = l.map rM) : Ent H (postP b l :: R1) :=
  Ent.tr (Ent.tr s.ent (Ent.mono (e ▸ t.ent))) (Ent.ex (L := fun pv => [blk b [pv] 117, sl pv 72 6 (l.map rM)]) pv)
theorem postP_nil [s : SelB H b [.slice Option.none 0 0] 117 R] : Ent H (postP b [] :: R) :=
  Ent.tr (Ent.tr s.ent (Ent.mono Ent.slN)) (Ent.ex (L := fun pv => [blk b [pv] 117, sl pv 72 6 (([] : List Mail).map rM)]) _)

end Go.Proofs.YtmakdilmibjpbacGreat
