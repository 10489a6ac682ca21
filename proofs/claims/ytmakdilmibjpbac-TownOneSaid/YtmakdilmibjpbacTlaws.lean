/- What a town's statements ask, in plain Lean. No program in sight. -/
import Derived.Test.YtmakdilmibjpbacCalms
namespace Go.Proofs.Ytmakdilmibjpbac
open Go Go.RowKit
set_option linter.unusedVariables false
set_option linter.unusedSimpArgs false
/-! ### What a town's statements ask -/
theorem serialT_same {t t' : TownS} (hw : ∀ n, wantsB t'.b n = wantsB t.b n) (ho : t'.b.order = t.b.order) (hs : t'.ws = t.ws) : serialT t' = serialT t := by
  unfold serialT; rw [ho, hs]; exact serialL_same _ _ fun n _ => hw n
/-- Nothing more is done where no deal is open. -/
theorem AllDec.keeps {t : TownS} (hI : TInv t) (hD : AllDec t) (h : 0 < t.post.length) : serialT (deliverT t 0).1 = serialT t ∧ (deliverT t 0).1.b.order = t.b.order := by
  obtain ⟨m, hm, hmk, hC⟩ := hI.delC h
  generalize (deliverT t 0).1 = t' at hC
  cases hC with
  | hear k =>
    have ho : (hearB t.b m).order = t.b.order := by
      rcases hear_ord t.b m with ⟨h, _⟩ | ⟨h0, h, _⟩
      · exact h
      · exfalso
        rcases hI.b.st m.deal with ⟨q, _⟩ | ⟨q1, q2, _⟩
        · omega
        · obtain ⟨d, hd, e⟩ := stateB_in (b := t.b) q1 q2
          exact hD d (List.mem_of_getElem? hd) (by omega)
    exact ⟨serialT_same (fun n => hear_wants hI.b m n) ho rfl, ho⟩
  | ans => exact ⟨rfl, rfl⟩
/-- Behind Calm, where no deal was open: what was done is what there is. -/
theorem TInv.settle {t : TownS} (hI : TInv t) (hD : AllDec t) : CalmS (calmT t).1 ∧ worldT (calmT t).1 = (serialT t).1 ∧ (calmT t).1.b.order = t.b.order := by
  have := calm_ind (fun u => AllDec u ∧ serialT u = serialT t ∧ u.b.order = t.b.order) (fun u hu ⟨h1, h2, h3⟩ hp => by
    obtain ⟨e1, e2⟩ := h1.keeps hu hp
    exact ⟨h1.deliver hu hp, e1.trans h2, e2.trans h3⟩) (fun u _ h _ => h) hI ⟨hD, rfl, rfl⟩
  obtain ⟨h1, ⟨_, h2, h3⟩, _⟩ := this
  refine ⟨h1, ?_, h3⟩
  rw [← h2, h1.serial]
/-! Quits and crashes. -/
structure QuitS (t u : TownS) (n : Nat) : Prop where
  inv : TInv u
  ser : serialT u = serialT t
  ord : u.b.order = t.b.order
  len : u.b.l.length = t.b.l.length
  st : ∀ q, stateB u.b q = if 0 ≤ q ∧ q < n ∧ stateB t.b q = 0 then 2 else stateB t.b q
theorem QuitS.zero {t : TownS} (hI : TInv t) : QuitS t t 0 := ⟨hI, rfl, rfl, rfl, fun q => by rw [if_neg (by omega)]⟩
theorem QuitS.next {t u : TownS} {n : Nat} (h : QuitS t u n) : QuitS t { u with b := (quitB u.b (n : Int)).1 } (n + 1) := by
  obtain ⟨h1, h2, h3, h4⟩ := quit_eff h.inv.b (n : Int)
  refine ⟨h.inv.quit _, (serialT_same (t := u) (t' := { u with b := (quitB u.b (n : Int)).1 }) h2 h1 rfl).trans h.ser, h1.trans h.ord, h3.trans h.len, fun q => ?_⟩
  show stateB (quitB u.b n).1 q = _
  rw [h4, h.st]
  by_cases hq : q = n
  · subst hq
    have : ¬ ((0 : Int) ≤ n ∧ (n : Int) < n ∧ stateB t.b n = 0) := by omega
    rw [if_neg this]
    by_cases h0 : stateB t.b n = 0
    · rw [if_pos ⟨rfl, h0⟩, if_pos (by omega)]
    · rw [if_neg (fun h => h0 h.2), if_neg (by omega)]
  · rw [if_neg (fun h => hq h.1)]
    by_cases h0 : 0 ≤ q ∧ q < n ∧ stateB t.b q = 0
    · rw [if_pos h0, if_pos (by omega)]
    · rw [if_neg h0, if_neg (by omega)]
theorem QuitS.all {t u : TownS} (h : QuitS t u t.b.l.length) : AllDec u := by
  intro d hd h0
  obtain ⟨n, hlt, rfl⟩ := List.mem_iff_getElem.1 hd
  have e := stateB_at (b := u.b) (List.getElem?_eq_getElem hlt)
  rw [h.st, h0] at e
  rw [h.len] at hlt
  by_cases h1 : 0 ≤ (n : Int) ∧ (n : Int) < t.b.l.length ∧ stateB t.b n = 0
  · rw [if_pos h1] at e; cases e
  · rw [if_neg h1] at e; omega
theorem crash_dec {t : TownS} : AllDec { t with b := crashB t.b } := by
  intro d hd h0
  obtain ⟨q, _, rfl⟩ := List.mem_map.1 (show d ∈ t.b.l.map crashD from hd)
  unfold crashD at h0; dsimp only at h0
  split at h0
  · cases h0
  · rename_i h1; exact h1 h0
theorem crash_wants (b : BrokS) (n : Int) : wantsB (crashB b) n = wantsB b n := by
  unfold wantsB crashB
  dsimp only
  split
  · rfl
  · rw [List.getElem?_map]
    cases b.l[n.toNat]? <;> rfl
/-! Sums. -/
def sumW : List Want → Int
  | [] => 0
  | w :: l => w.dl + sumW l
def sumI6 (ws : List Int) : Int := ws.getD 0 0 + ws.getD 1 0 + ws.getD 2 0 + ws.getD 3 0 + ws.getD 4 0 + ws.getD 5 0
theorem addOf_sum : ∀ {l : List Want}, (∀ w ∈ l, 0 ≤ w.ctr ∧ w.ctr < 6) → addOf l 0 + addOf l 1 + addOf l 2 + addOf l 3 + addOf l 4 + addOf l 5 = sumW l
  | [], _ => by simp [addOf_nil, sumW]
  | w :: l, h => by
    have ih := addOf_sum (l := l) (fun x hx => h x (by simp [hx]))
    have hw := h w (by simp)
    simp only [addOf_cons, sumW]
    rcases (by omega : w.ctr = 0 ∨ w.ctr = 1 ∨ w.ctr = 2 ∨ w.ctr = 3 ∨ w.ctr = 4 ∨ w.ctr = 5) with e | e | e | e | e | e <;> simp only [e] <;> simp <;> omega
theorem apply_sum {ws : List Int} {l : List Want} (h6 : ws.length = 6) (hc : (applyL ws l).2.code = 0) : sumI6 (applyL ws l).1 = sumI6 ws + sumW l ∧ (applyL ws l).1.length = 6 := by
  have hk : (checkL l).code = 0 := by
    unfold applyL at hc
    split at hc
    · exact hc
    · omega
  have ha := applyL_ok h6 hk
  have hw := ((checkL_ok l).1 hk).2.2
  rw [ha.2.1 (ha.1.1 hc)]
  have := addOf_sum (l := l) (fun w hw' => by have := wantF_ok (hw.1 w hw'); omega)
  refine ⟨?_, by simp [addL]⟩
  have e : addL ws l = [ws.getD 0 0 + addOf l 0, ws.getD 1 0 + addOf l 1, ws.getD 2 0 + addOf l 2, ws.getD 3 0 + addOf l 3, ws.getD 4 0 + addOf l 4, ws.getD 5 0 + addOf l 5] := rfl
  dsimp only
  rw [e]
  simp only [sumI6, List.getD_cons_zero, List.getD_cons_succ]
  omega
theorem serialL_sum {b : BrokS} : ∀ (l : List Int) (ws : List Int), ws.length = 6 → (∀ n ∈ l, sumW (wantsB b n) = 0) → (serialL b ws l).2 = 0 → sumI6 (serialL b ws l).1 = sumI6 ws
  | [], _, _, _, _ => rfl
  | n :: l, ws, h6, h, hc => by
    simp only [serialL] at hc ⊢
    split
    · rename_i h1; rw [if_pos h1] at hc; exact absurd hc h1
    · rename_i h1
      rw [if_neg h1] at hc
      obtain ⟨e1, e2⟩ := apply_sum (l := wantsB b n) h6 (by omega)
      rw [serialL_sum l _ e2 (fun m hm => h m (by simp [hm])) hc, e1, h n (by simp)]
      omega
/-- All deals are nought together. -/
def SumZ (b : BrokS) : Prop := ∀ n, sumW (wantsB b n) = 0
theorem SumZ.of {b b' : BrokS} (h : SumZ b) (hw : ∀ n, wantsB b' n = wantsB b n) : SumZ b' := fun n => by rw [hw]; exact h n
theorem SumZ.begin {b : BrokS} (hb : BInv b) (h : SumZ b) {l : List Want} (hs : (checkL l).code = 0 → sumW l = 0) : SumZ (beginB b l).1 := by
  unfold beginB
  split
  · exact h
  · rename_i hc
    split
    · exact h
    · intro n
      unfold wantsB
      dsimp only
      split
      · rfl
      · rename_i h0
        rcases Nat.lt_or_ge n.toNat b.l.length with h1 | h1
        · rw [List.getElem?_append_left h1]
          have := h n
          unfold wantsB at this
          rw [if_neg h0] at this
          exact this
        · rw [List.getElem?_append_right h1]
          by_cases e : n.toNat - b.l.length = 0
          · rw [e]; exact hs (by omega)
          · rw [List.getElem?_eq_none (by simp; omega)]; rfl
theorem deliver_wants {t : TownS} (hI : TInv t) (n q : Int) : wantsB (deliverT t n).1.b q = wantsB t.b q := by
  unfold deliverT
  split
  · rfl
  · split
    · exact hear_wants hI.b _ q
    · split
      · rfl
      · split <;> rfl
theorem step_wants {t : TownS} (hI : TInv t) (x : StepS) (hx : x.kind ≠ 1) (q : Int) : wantsB (stepT t x).1.b q = wantsB t.b q := by
  unfold stepT
  rw [if_neg hx]
  split
  · rfl
  · split
    · exact deliver_wants hI _ q
    · split
      · split <;> rfl
      · split
        · split
          · rfl
          · split <;> rfl
        · split
          · exact (quit_eff hI.b x.n).2.1 q
          · split
            · split
              · rfl
              · split <;> rfl
            · split
              · exact crash_wants t.b q
              · rfl
theorem TInv.sum {t : TownS} (hI : TInv t) (hz : SumZ t.b) : sumI6 (worldT (calmT t).1) = sumI6 t.ws := by
  have hws : ∀ u : TownS, (deliverT u 0).1.ws = u.ws := fun u => by
    unfold deliverT
    split
    · rfl
    · split
      · rfl
      · split
        · rfl
        · split <;> rfl
  have := calm_ind (fun u => SumZ u.b ∧ u.ws = t.ws) (fun u hu h hp => ⟨h.1.of fun n => deliver_wants hu 0 n, (hws u).trans h.2⟩) (fun u _ h _ => h) hI ⟨hz, rfl⟩
  obtain ⟨h1, ⟨h2, h3⟩, _⟩ := this
  have hs := h1.serial
  have := serialL_sum (b := (calmT t).1.b) (calmT t).1.b.order (calmT t).1.ws h1.inv.ws6 (fun n _ => h2 n) (by
    have : (serialT (calmT t).1).2 = 0 := by rw [hs]
    exact this)
  rw [show serialL (calmT t).1.b (calmT t).1.ws (calmT t).1.b.order = serialT (calmT t).1 from rfl, hs, h3] at this
  exact this
/-! Calm stays calm. -/
theorem CalmS.calm {t : TownS} (h : CalmS t) : calmT t = (t, 0) := by
  have hd : drainT t = t := by unfold drainT; rw [dif_neg (by rw [h.post]; simp)]
  unfold calmT calmN
  rw [hd, if_pos (by rw [h.due]; rfl)]
theorem CalmS.step {t : TownS} (h : CalmS t) (x : StepS) : (x.kind = 3 ∨ x.kind = 4 ∨ x.kind = 5 → stepT t x = (t, 7)) ∧ (x.kind = 2 ∨ x.kind = 7 → (stepT t x).1 = t) := by
  have hn : ∀ n, takeM t.post n = none := fun n => by rw [h.post]; simp [takeM]
  constructor
  · rintro (e | e | e)
    · unfold stepT; rw [if_neg (by omega), if_neg (by omega), if_pos e]; unfold deliverT; rw [hn]
    · unfold stepT; rw [if_neg (by omega), if_neg (by omega), if_neg (by omega), if_pos e, hn]; simp
    · unfold stepT; rw [if_neg (by omega), if_neg (by omega), if_neg (by omega), if_neg (by omega), if_pos e, if_pos (by rw [h.post]; rfl)]
  · rintro (e | e)
    · unfold stepT; rw [if_neg (by omega), if_pos e]
      show tickT t = t
      unfold tickT; rw [h.due]; rfl
    · unfold stepT; rw [if_neg (by omega), if_neg (by omega), if_neg (by omega), if_neg (by omega), if_neg (by omega), if_neg (by omega), if_pos e]
      split
      · rfl
      · split
        · rfl
        · rename_i k hk
          rw [(h.inv.k _ k hk).1.crash.1]
          dsimp only
          rw [set_selfE hk]
/-- A shop that forgets all but its records: nothing is other. -/
theorem TInv.forget {t : TownS} (hI : TInv t) {x : StepS} (h : x.kind = 7) : (stepT t x).1 = t := by
  unfold stepT; rw [if_neg (by omega), if_neg (by omega), if_neg (by omega), if_neg (by omega), if_neg (by omega), if_neg (by omega), if_pos h]
  split
  · rfl
  · split
    · rfl
    · rename_i k hk
      rw [(hI.k _ k hk).1.crash.1]
      dsimp only
      rw [set_selfE hk]

end Go.Proofs.Ytmakdilmibjpbac
