/- A town, in plain Lean: what its steps come to. No program in sight. -/
import Derived.Test.YtmakdilmibjpbacGreatBrokL
import Derived.Test.YtmakdilmibjpbacGreatPost
import Derived.Test.YtmakdilmibjpbacGreatAns
namespace Go.Proofs.YtmakdilmibjpbacGreat
open Go Go.RowKit
set_option linter.unusedVariables false
set_option linter.unusedSimpArgs false
structure TownS where
  b : BrokS
  ws : List Int
  ks : List KeepS
  post : List Mail
def newT (ws : List Int) : Option TownS := match newK 0 ws, newK 1 ws, newK 2 ws with
  | some a, some b, some c => some ⟨⟨[], []⟩, ws, [a, b, c], []⟩
  | _, _, _ => none
def deliverT (t : TownS) (n : Int) : TownS × Int := match takeM t.post n with
  | none => (t, 7)
  | some m =>
    if m.kind = 2 ∨ m.kind = 4 then ({ t with post := takeL t.post n, b := hearB t.b m }, 0)
    else if m.shop < 0 then ({ t with post := takeL t.post n }, 0)
    else match t.ks[m.shop.toNat]? with
      | none => ({ t with post := takeL t.post n }, 0)
      | some k => ({ t with ks := t.ks.set m.shop.toNat (ansK k m).1, post := match (ansK k m).2 with | some x => sendL (takeL t.post n) x | none => takeL t.post n }, 0)
def tickT (t : TownS) : TownS := { t with post := (dueB t.b).foldl sendL t.post }
structure StepS where
  kind : Int
  n : Int
  wants : List Want
def stepT (t : TownS) (x : StepS) : TownS × Int :=
  if x.kind = 1 then ({ t with b := (beginB t.b x.wants).1 }, (beginB t.b x.wants).2.2)
  else if x.kind = 2 then (tickT t, 0)
  else if x.kind = 3 then deliverT t x.n
  else if x.kind = 4 then (if (takeM t.post x.n).isSome then ({ t with post := takeL t.post x.n }, 0) else (t, 7))
  else if x.kind = 5 then (if t.post.length = 0 then (t, 7) else if dblOk t.post then ({ t with post := dblL t.post x.n }, 0) else (t, 6))
  else if x.kind = 6 then ({ t with b := (quitB t.b x.n).1 }, (quitB t.b x.n).2)
  else if x.kind = 7 then (if x.n < 0 ∨ 3 ≤ x.n then (t, 1) else match t.ks[x.n.toNat]? with | none => (t, 1) | some k => ({ t with ks := t.ks.set x.n.toNat (crashK k) }, 0))
  else if x.kind = 8 then ({ t with b := crashB t.b }, 0)
  else (t, 10)
def wgt (m : Mail) : Nat := if m.kind = 2 ∨ m.kind = 4 then 1 else 2
def wgtL : List Mail → Nat
  | [] => 0
  | m :: l => wgt m + wgtL l
theorem wgtL_app (a b : List Mail) : wgtL (a ++ b) = wgtL a + wgtL b := by
  induction a with
  | nil => simp [wgtL]
  | cons m a ih => simp only [List.cons_append, wgtL, ih]; omega
theorem wgtL_send (l : List Mail) (m : Mail) : wgtL (sendL l m) ≤ wgtL l + wgt m := by
  unfold sendL; split
  · rw [wgtL_app]; simp [wgtL]
  · omega
theorem wgtL_take {l : List Mail} {n : Int} {m : Mail} (h : takeM l n = some m) : wgtL (takeL l n) + wgt m = wgtL l := by
  unfold takeM at h
  unfold takeL
  generalize rnd n l.length = i at h
  have : l = l.take i ++ m :: l.drop (i + 1) := by
    obtain ⟨hi, e⟩ := List.getElem?_eq_some_iff.1 h
    rw [← e, ← List.drop_eq_getElem_cons hi, List.take_append_drop]
  conv => rhs; rw [this]
  rw [wgtL_app, wgtL_app]; simp only [wgtL]; omega
theorem deliver_wgt {t : TownS} {n : Int} {m : Mail} (h : takeM t.post n = some m) : wgtL (deliverT t n).1.post < wgtL t.post := by
  have h1 := wgtL_take h
  unfold deliverT; rw [h]; dsimp only
  have hw : 1 ≤ wgt m := by unfold wgt; split <;> omega
  split
  · dsimp only; omega
  · rename_i hk
    have hw : wgt m = 2 := by unfold wgt; rw [if_neg hk]
    split
    · dsimp only; omega
    · split
      · dsimp only; omega
      · rename_i k hk
        dsimp only
        split
        · rename_i x hx
          have := wgtL_send (takeL t.post n) x
          have hx : wgt x = 1 := by unfold wgt; rw [if_pos (ansK_kind hx)]
          omega
        · omega
theorem takeM_some' {l : List Mail} (n : Int) (h : 0 < l.length) : ∃ m, takeM l n = some m := ⟨_, List.getElem?_eq_getElem (rnd_lt h)⟩
/-- Mail comes till there is none. -/
def drainT (t : TownS) : TownS := if h : 0 < t.post.length then drainT (deliverT t 0).1 else t
termination_by wgtL t.post
decreasing_by obtain ⟨m, hm⟩ := takeM_some' (l := t.post) 0 h; exact deliver_wgt hm
def calmN : Nat → Int → TownS → TownS × Int
  | 0, n, t => (t, n)
  | k + 1, n, t => if (dueB (drainT t).b).length = 0 then (drainT t, n) else calmN k (n + 1) (tickT (drainT t))
def calmT (t : TownS) : TownS × Int := calmN 20 0 t
def worldT (t : TownS) : List Int := t.ks.flatMap fun k => [k.shop.c0.v, k.shop.c1.v]
def serialL (b : BrokS) : List Int → List Int → List Int × Int
  | ws, [] => (ws, 0)
  | ws, n :: l => if (applyL ws (wantsB b n)).2.code ≠ 0 then (z6, (applyL ws (wantsB b n)).2.code) else serialL b (applyL ws (wantsB b n)).1 l
def serialT (t : TownS) : List Int × Int := serialL t.b t.ws t.b.order

end Go.Proofs.YtmakdilmibjpbacGreat
