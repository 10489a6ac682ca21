/- Towns: how they lie. -/
import Derived.Test.YtmakdilmibjpbabGreatDoorTinv
import Derived.Test.YtmakdilmibjpbabGreatDoorBrokP
import Derived.Test.YtmakdilmibjpbabGreatDoorClerkP
namespace Go.Proofs.YtmakdilmibjpbabGreatDoor
open Go Go.RowKit
set_option linter.unusedVariables false
set_option maxRecDepth 20000

abbrev tnC (bb : Nat) (ws : List Int) (c0 c1 c2 pb : Nat) : List Value := [ptr bb, .int .i64 (ws.getD 0 0), .int .i64 (ws.getD 1 0), .int .i64 (ws.getD 2 0), .int .i64 (ws.getD 3 0), .int .i64 (ws.getD 4 0), .int .i64 (ws.getD 5 0), ptr c0, ptr c1, ptr c2, ptr pb]
abbrev tnL (b : Nat) (t : TownS) (bb c0 c1 c2 pb : Nat) : List HP := [blk b (tnC bb t.ws c0 c1 c2 pb) 53, brokP bb t.b, manyP clerkP [c0, c1, c2] t.ks, postP pb t.post]
def townP (b : Nat) (t : TownS) : HP := fun h => ∃ bb c0 c1 c2 pb, sep (tnL b t bb c0 c1 c2 pb) h
variable {H R R1 R2 R3 : List HP} {b : Nat} {t : TownS}
theorem townP_close (bb c0 c1 c2 pb : Nat) {cs : List Value} [x : SelB H b cs 53 R] [y : SelX R (brokP bb t.b) R1] [z : SelX R1 (manyP clerkP [c0, c1, c2] t.ks) R2] [w : SelX R2 (postP pb t.post) R3] (e : cs = tnC bb t.ws c0 c1 c2 pb) : Ent H (townP b t :: R3) := by
  subst e
  refine Ent.tr (Ent.tr x.ent (Ent.mono (Ent.tr y.ent (Ent.mono (Ent.tr z.ent (Ent.mono w.ent)))))) (fun h hx => ?_)
  obtain ⟨p, q, hp, hq, hd, e⟩ := sep_app (A := tnL b t bb c0 c1 c2 pb) hx
  exact ⟨h, ⟨p, q, ⟨bb, c0, c1, c2, pb, hp⟩, hq, hd, e⟩, Hp.sub_refl h⟩
theorem townP_open {M : Amb} {w : World} (ho : Own M (townP b t :: R) w) : ∃ bb c0 c1 c2 pb, Own M (tnL b t bb c0 c1 c2 pb ++ R) w := by
  obtain ⟨hb, hs, g, ⟨x, y, ⟨bb, c0, c1, c2, pb, hx⟩, hr, hd, e⟩, hh⟩ := ho
  subst e
  exact ⟨bb, c0, c1, c2, pb, hb, hs, _, sep_app' hx hr hd, hh⟩
section opening
variable {P : Program} {F : Exit → Act → World → Prop} {N : Nat} {M : Amb} {K : List KI} {env : Env}
theorem r_town (h : ∀ bb c0 c1 c2 pb, Run P F N M K env (tnL b t bb c0 c1 c2 pb ++ R)) : Run P F N M K env (townP b t :: R) := fun a w hf ho => by
  obtain ⟨bb, c0, c1, c2, pb, ho'⟩ := townP_open ho
  exact h bb c0 c1 c2 pb a w hf ho'
end opening
def cAt (c0 c1 c2 s : Nat) : Nat := if s = 0 then c0 else if s = 1 then c1 else c2
theorem lt3 {s : Nat} (h : s < 3) : s = 0 ∨ s = 1 ∨ s = 2 := by omega
theorem cAt_get {c0 c1 c2 s : Nat} (h : s < 3) : ([c0, c1, c2] : List Nat)[s]? = some (cAt c0 c1 c2 s) := by
  rcases lt3 h with rfl | rfl | rfl <;> rfl
theorem tn_cell {bb c0 c1 c2 pb s : Nat} {ws : List Int} (h : s < 3) : (tnC bb ws c0 c1 c2 pb)[7 + s]? = some (ptr (cAt c0 c1 c2 s)) := by
  rcases lt3 h with rfl | rfl | rfl <;> rfl
/-- Steps of towns as they come in. -/
structure TStep where
  kind : Int
  n : Int
  wv : Value
  wants : List Want
abbrev TStep.s (x : TStep) : StepS := ⟨x.kind, x.n, x.wants⟩
def rTS (x : TStep) : List Value := [.int .i64 x.kind, .int .i64 x.n, x.wv]
/-! ### What steps come to, case by case -/
theorem takeM_none {l : List Mail} {n : Int} (h : takeM l n = none) : takeL l n = l := by
  have : l.length = 0 := by
    refine Classical.byContradiction fun h0 => ?_
    obtain ⟨m, hm⟩ := takeM_some (l := l) n (by omega)
    rw [h] at hm; cases hm
  exact (take_none this).2
theorem deliverT_n {n : Int} (h : takeM t.post n = none) : deliverT t n = (t, 7) := by unfold deliverT; rw [h]
theorem deliverT_b {n : Int} {m : Mail} (h : takeM t.post n = some m) (hk : m.kind = 2 ∨ m.kind = 4) : deliverT t n = ({ t with post := takeL t.post n, b := hearB t.b m }, 0) := by
  unfold deliverT; rw [h]; dsimp only; rw [if_pos hk]
theorem deliverT_o {n : Int} {m : Mail} (hl : t.ks.length = 3) (h : takeM t.post n = some m) (hk : ¬ (m.kind = 2 ∨ m.kind = 4)) (hs : m.shop < 0 ∨ 3 ≤ m.shop) : deliverT t n = ({ t with post := takeL t.post n }, 0) := by
  unfold deliverT; rw [h]; dsimp only; rw [if_neg hk]
  split
  · rfl
  · rw [List.getElem?_eq_none (by omega)]
theorem deliverT_c {n : Int} {m : Mail} {i : Nat} {k : KeepS} (h : takeM t.post n = some m) (hk : ¬ (m.kind = 2 ∨ m.kind = 4)) (hs : m.shop = (i : Int)) (hi : t.ks[i]? = some k) : deliverT t n = ({ t with ks := t.ks.set i (ansK k m).1, post := match (ansK k m).2 with | some x => sendL (takeL t.post n) x | none => takeL t.post n }, 0) := by
  unfold deliverT; rw [h]; dsimp only; rw [if_neg hk, if_neg (by omega)]
  have e : m.shop.toNat = i := by omega
  rw [e, hi]; rfl
theorem stepT_1 {x : StepS} (h : x.kind = 1) : stepT t x = ({ t with b := (beginB t.b x.wants).1 }, (beginB t.b x.wants).2.2) := by unfold stepT; rw [if_pos h]
theorem stepT_2 {x : StepS} (h : x.kind = 2) : stepT t x = (tickT t, 0) := by unfold stepT; rw [if_neg (by omega), if_pos h]
theorem stepT_3 {x : StepS} (h : x.kind = 3) : stepT t x = deliverT t x.n := by unfold stepT; rw [if_neg (by omega), if_neg (by omega), if_pos h]
theorem stepT_4 {x : StepS} (h : x.kind = 4) : stepT t x = if (takeM t.post x.n).isSome then ({ t with post := takeL t.post x.n }, 0) else (t, 7) := by unfold stepT; rw [if_neg (by omega), if_neg (by omega), if_neg (by omega), if_pos h]
theorem stepT_5 {x : StepS} (h : x.kind = 5) : stepT t x = if t.post.length = 0 then (t, 7) else if dblOk t.post then ({ t with post := dblL t.post x.n }, 0) else (t, 6) := by
  unfold stepT; rw [if_neg (by omega), if_neg (by omega), if_neg (by omega), if_neg (by omega), if_pos h]
theorem stepT_6 {x : StepS} (h : x.kind = 6) : stepT t x = ({ t with b := (quitB t.b x.n).1 }, (quitB t.b x.n).2) := by unfold stepT; rw [if_neg (by omega), if_neg (by omega), if_neg (by omega), if_neg (by omega), if_neg (by omega), if_pos h]
theorem stepT_7 {x : StepS} (h : x.kind = 7) : stepT t x = if x.n < 0 ∨ 3 ≤ x.n then (t, (1 : Int)) else match t.ks[x.n.toNat]? with | none => (t, (1 : Int)) | some k => ({ t with ks := t.ks.set x.n.toNat (crashK k) }, 0) := by
  unfold stepT; rw [if_neg (by omega), if_neg (by omega), if_neg (by omega), if_neg (by omega), if_neg (by omega), if_neg (by omega), if_pos h]; rfl
theorem stepT_8 {x : StepS} (h : x.kind = 8) : stepT t x = ({ t with b := crashB t.b }, 0) := by
  unfold stepT; rw [if_neg (by omega), if_neg (by omega), if_neg (by omega), if_neg (by omega), if_neg (by omega), if_neg (by omega), if_neg (by omega), if_pos h]
theorem stepT_9 {x : StepS} (h : x.kind ≠ 1) (h2 : x.kind ≠ 2) (h3 : ¬ (x.kind = 3 ∨ x.kind = 4 ∨ x.kind = 5)) (h6 : x.kind ≠ 6) (h7 : x.kind ≠ 7) (h8 : x.kind ≠ 8) : stepT t x = (t, 10) := by
  unfold stepT; rw [if_neg h, if_neg h2, if_neg (by omega), if_neg (by omega), if_neg (by omega), if_neg h6, if_neg h7, if_neg h8]
theorem dbl_no {l : List Mail} {n : Int} (h : dblOk l = false) (hl : l.length ≤ 40) : dblL l n = l := by
  unfold dblL
  cases hm : takeM l n with
  | none => rfl
  | some m =>
    dsimp only
    unfold sendL
    rw [if_neg]
    intro h40
    have h0 : 0 < l.length := by
      refine Classical.byContradiction fun h0 => ?_
      rw [show l = [] from List.eq_nil_of_length_eq_zero (by omega), takeM_nil] at hm
      cases hm
    unfold dblOk at h
    simp at h
    omega
theorem drainT_step (h : 0 < t.post.length) : drainT t = drainT (deliverT t 0).1 := by rw [drainT, dif_pos h]
theorem drainT_end (h : ¬ 0 < t.post.length) : drainT t = t := by rw [drainT, dif_neg h]
theorem worldT_len (h : t.ks.length = 3) : (worldT t).length = 6 := by
  match hk : t.ks, h with
  | [a, b, c], _ => simp [worldT, hk]
theorem worldT_get {s : Nat} {k : KeepS} (h : t.ks.length = 3) (hk : t.ks[s]? = some k) : (worldT t).getD (2 * s) 0 = k.shop.c0.v ∧ (worldT t).getD (2 * s + 1) 0 = k.shop.c1.v := by
  match e : t.ks, h with
  | [a, b, c], _ =>
    rw [e] at hk
    have hs : s < 3 := (List.getElem?_eq_some_iff.1 hk).1
    rcases lt3 hs with rfl | rfl | rfl <;> simp at hk <;> subst hk <;> simp [worldT, e]

end Go.Proofs.YtmakdilmibjpbabGreatDoor
