/- What a town's statements ask, in plain Lean. No program in sight. What plans ask, in plain Lean. No program in sight. -/
import Derived.Test.YtmakdilmibjpbabGreatDoorCalms
import Derived.Test.YtmakdilmibjpbabGreatDoorWants
namespace Go.Proofs.YtmakdilmibjpbabGreatDoor
open Go Go.RowKit
set_option linter.unusedVariables false
set_option linter.unusedSimpArgs false
/-! ### What a town's statements ask -/
theorem serialT_same {t t' : TownS} (hw : ∀ n, wantsB t'.b n = wantsB t.b n) (ho : t'.b.order = t.b.order) (hs : t'.ws = t.ws) : serialT t' = serialT t := by
  unfold serialT; rw [ho, hs]; exact serialL_same _ _ fun n _ => hw n
/-- Nothing more is done where no deal is open. -/
theorem AllDec.keeps {t : TownS} (hI : TInv t) (hD : AllDec t) (h : 0 < t.post.length) : serialT (deliverT t 0).1 = serialT t ∧ (deliverT t 0).1.b.order = t.b.order := by
  obtain ⟨m, hm, hmk, hC⟩ := hI.delC h
  generalize (deliverT t 0).1 = t' at hC
  cases hC with
  | hear k =>
    have ho : (hearB t.b m).order = t.b.order := by
      rcases hear_ord t.b m with ⟨h, _⟩ | ⟨h0, h, _⟩
      · exact h
      · exfalso
        rcases hI.b.st m.deal with ⟨q, _⟩ | ⟨q1, q2, _⟩
        · omega
        · obtain ⟨d, hd, e⟩ := stateB_in (b := t.b) q1 q2
          exact hD d (List.mem_of_getElem? hd) (by omega)
    exact ⟨serialT_same (fun n => hear_wants hI.b m n) ho rfl, ho⟩
  | ans => exact ⟨rfl, rfl⟩
/-- Behind Calm, where no deal was open: what was done is what there is. -/
theorem TInv.settle {t : TownS} (hI : TInv t) (hD : AllDec t) : CalmS (calmT t).1 ∧ worldT (calmT t).1 = (serialT t).1 ∧ (calmT t).1.b.order = t.b.order := by
  have := calm_ind (fun u => AllDec u ∧ serialT u = serialT t ∧ u.b.order = t.b.order) (fun u hu ⟨h1, h2, h3⟩ hp => by
    obtain ⟨e1, e2⟩ := h1.keeps hu hp
    exact ⟨h1.deliver hu hp, e1.trans h2, e2.trans h3⟩) (fun u _ h _ => h) hI ⟨hD, rfl, rfl⟩
  obtain ⟨h1, ⟨_, h2, h3⟩, _⟩ := this
  refine ⟨h1, ?_, h3⟩
  rw [← h2, h1.serial]
/-! Quits and crashes. -/
structure QuitS (t u : TownS) (n : Nat) : Prop where
  inv : TInv u
  ser : serialT u = serialT t
  ord : u.b.order = t.b.order
  len : u.b.l.length = t.b.l.length
  st : ∀ q, stateB u.b q = if 0 ≤ q ∧ q < n ∧ stateB t.b q = 0 then 2 else stateB t.b q
theorem QuitS.zero {t : TownS} (hI : TInv t) : QuitS t t 0 := ⟨hI, rfl, rfl, rfl, fun q => by rw [if_neg (by omega)]⟩
theorem QuitS.next {t u : TownS} {n : Nat} (h : QuitS t u n) : QuitS t { u with b := (quitB u.b (n : Int)).1 } (n + 1) := by
  obtain ⟨h1, h2, h3, h4⟩ := quit_eff h.inv.b (n : Int)
  refine ⟨h.inv.quit _, (serialT_same (t := u) (t' := { u with b := (quitB u.b (n : Int)).1 }) h2 h1 rfl).trans h.ser, h1.trans h.ord, h3.trans h.len, fun q => ?_⟩
  show stateB (quitB u.b n).1 q = _
  rw [h4, h.st]
  by_cases hq : q = n
  · subst hq
    have : ¬ ((0 : Int) ≤ n ∧ (n : Int) < n ∧ stateB t.b n = 0) := by omega
    rw [if_neg this]
    by_cases h0 : stateB t.b n = 0
    · rw [if_pos ⟨rfl, h0⟩, if_pos (by omega)]
    · rw [if_neg (fun h => h0 h.2), if_neg (by omega)]
  · rw [if_neg (fun h => hq h.1)]
    by_cases h0 : 0 ≤ q ∧ q < n ∧ stateB t.b q = 0
    · rw [if_pos h0, if_pos (by omega)]
    · rw [if_neg h0, if_neg (by omega)]
theorem QuitS.all {t u : TownS} (h : QuitS t u t.b.l.length) : AllDec u := by
  intro d hd h0
  obtain ⟨n, hlt, rfl⟩ := List.mem_iff_getElem.1 hd
  have e := stateB_at (b := u.b) (List.getElem?_eq_getElem hlt)
  rw [h.st, h0] at e
  rw [h.len] at hlt
  by_cases h1 : 0 ≤ (n : Int) ∧ (n : Int) < t.b.l.length ∧ stateB t.b n = 0
  · rw [if_pos h1] at e; cases e
  · rw [if_neg h1] at e; omega
theorem crash_dec {t : TownS} : AllDec { t with b := crashB t.b } := by
  intro d hd h0
  obtain ⟨q, _, rfl⟩ := List.mem_map.1 (show d ∈ t.b.l.map crashD from hd)
  unfold crashD at h0; dsimp only at h0
  split at h0
  · cases h0
  · rename_i h1; exact h1 h0
theorem crash_wants (b : BrokS) (n : Int) : wantsB (crashB b) n = wantsB b n := by
  unfold wantsB crashB
  dsimp only
  split
  · rfl
  · rw [List.getElem?_map]
    cases b.l[n.toNat]? <;> rfl
/-! Sums. -/
def sumW : List Want → Int
  | [] => 0
  | w :: l => w.dl + sumW l
def sumI6 (ws : List Int) : Int := ws.getD 0 0 + ws.getD 1 0 + ws.getD 2 0 + ws.getD 3 0 + ws.getD 4 0 + ws.getD 5 0
theorem addOf_sum : ∀ {l : List Want}, (∀ w ∈ l, 0 ≤ w.ctr ∧ w.ctr < 6) → addOf l 0 + addOf l 1 + addOf l 2 + addOf l 3 + addOf l 4 + addOf l 5 = sumW l
  | [], _ => by simp [addOf_nil, sumW]
  | w :: l, h => by
    have ih := addOf_sum (l := l) (fun x hx => h x (by simp [hx]))
    have hw := h w (by simp)
    simp only [addOf_cons, sumW]
    rcases (by omega : w.ctr = 0 ∨ w.ctr = 1 ∨ w.ctr = 2 ∨ w.ctr = 3 ∨ w.ctr = 4 ∨ w.ctr = 5) with e | e | e | e | e | e <;> simp only [e] <;> simp <;> omega
theorem apply_sum {ws : List Int} {l : List Want} (h6 : ws.length = 6) (hc : (applyL ws l).2.code = 0) : sumI6 (applyL ws l).1 = sumI6 ws + sumW l ∧ (applyL ws l).1.length = 6 := by
  have hk : (checkL l).code = 0 := by
    unfold applyL at hc
    split at hc
    · exact hc
    · omega
  have ha := applyL_ok h6 hk
  have hw := ((checkL_ok l).1 hk).2.2
  rw [ha.2.1 (ha.1.1 hc)]
  have := addOf_sum (l := l) (fun w hw' => by have := wantF_ok (hw.1 w hw'); omega)
  refine ⟨?_, by simp [addL]⟩
  have e : addL ws l = [ws.getD 0 0 + addOf l 0, ws.getD 1 0 + addOf l 1, ws.getD 2 0 + addOf l 2, ws.getD 3 0 + addOf l 3, ws.getD 4 0 + addOf l 4, ws.getD 5 0 + addOf l 5] := rfl
  dsimp only
  rw [e]
  simp only [sumI6, List.getD_cons_zero, List.getD_cons_succ]
  omega
theorem serialL_sum {b : BrokS} : ∀ (l : List Int) (ws : List Int), ws.length = 6 → (∀ n ∈ l, sumW (wantsB b n) = 0) → (serialL b ws l).2 = 0 → sumI6 (serialL b ws l).1 = sumI6 ws
  | [], _, _, _, _ => rfl
  | n :: l, ws, h6, h, hc => by
    simp only [serialL] at hc ⊢
    split
    · rename_i h1; rw [if_pos h1] at hc; exact absurd hc h1
    · rename_i h1
      rw [if_neg h1] at hc
      obtain ⟨e1, e2⟩ := apply_sum (l := wantsB b n) h6 (by omega)
      rw [serialL_sum l _ e2 (fun m hm => h m (by simp [hm])) hc, e1, h n (by simp)]
      omega
/-- All deals are nought together. -/
def SumZ (b : BrokS) : Prop := ∀ n, sumW (wantsB b n) = 0
theorem SumZ.of {b b' : BrokS} (h : SumZ b) (hw : ∀ n, wantsB b' n = wantsB b n) : SumZ b' := fun n => by rw [hw]; exact h n
theorem SumZ.begin {b : BrokS} (hb : BInv b) (h : SumZ b) {l : List Want} (hs : (checkL l).code = 0 → sumW l = 0) : SumZ (beginB b l).1 := by
  unfold beginB
  split
  · exact h
  · rename_i hc
    split
    · exact h
    · intro n
      unfold wantsB
      dsimp only
      split
      · rfl
      · rename_i h0
        rcases Nat.lt_or_ge n.toNat b.l.length with h1 | h1
        · rw [List.getElem?_append_left h1]
          have := h n
          unfold wantsB at this
          rw [if_neg h0] at this
          exact this
        · rw [List.getElem?_append_right h1]
          by_cases e : n.toNat - b.l.length = 0
          · rw [e]; exact hs (by omega)
          · rw [List.getElem?_eq_none (by simp; omega)]; rfl
theorem deliver_wants {t : TownS} (hI : TInv t) (n q : Int) : wantsB (deliverT t n).1.b q = wantsB t.b q := by
  unfold deliverT
  split
  · rfl
  · split
    · exact hear_wants hI.b _ q
    · split
      · rfl
      · split <;> rfl
theorem step_wants {t : TownS} (hI : TInv t) (x : StepS) (hx : x.kind ≠ 1) (q : Int) : wantsB (stepT t x).1.b q = wantsB t.b q := by
  unfold stepT
  rw [if_neg hx]
  split
  · rfl
  · split
    · exact deliver_wants hI _ q
    · split
      · split <;> rfl
      · split
        · split
          · rfl
          · split <;> rfl
        · split
          · exact (quit_eff hI.b x.n).2.1 q
          · split
            · split
              · rfl
              · split <;> rfl
            · split
              · exact crash_wants t.b q
              · rfl
theorem TInv.sum {t : TownS} (hI : TInv t) (hz : SumZ t.b) : sumI6 (worldT (calmT t).1) = sumI6 t.ws := by
  have hws : ∀ u : TownS, (deliverT u 0).1.ws = u.ws := fun u => by
    unfold deliverT
    split
    · rfl
    · split
      · rfl
      · split
        · rfl
        · split <;> rfl
  have := calm_ind (fun u => SumZ u.b ∧ u.ws = t.ws) (fun u hu h hp => ⟨h.1.of fun n => deliver_wants hu 0 n, (hws u).trans h.2⟩) (fun u _ h _ => h) hI ⟨hz, rfl⟩
  obtain ⟨h1, ⟨h2, h3⟩, _⟩ := this
  have hs := h1.serial
  have := serialL_sum (b := (calmT t).1.b) (calmT t).1.b.order (calmT t).1.ws h1.inv.ws6 (fun n _ => h2 n) (by
    have : (serialT (calmT t).1).2 = 0 := by rw [hs]
    exact this)
  rw [show serialL (calmT t).1.b (calmT t).1.ws (calmT t).1.b.order = serialT (calmT t).1 from rfl, hs, h3] at this
  exact this
/-! Calm stays calm. -/
theorem CalmS.calm {t : TownS} (h : CalmS t) : calmT t = (t, 0) := by
  have hd : drainT t = t := by unfold drainT; rw [dif_neg (by rw [h.post]; simp)]
  unfold calmT calmN
  rw [hd, if_pos (by rw [h.due]; rfl)]
theorem CalmS.step {t : TownS} (h : CalmS t) (x : StepS) : (x.kind = 3 ∨ x.kind = 4 ∨ x.kind = 5 → stepT t x = (t, 7)) ∧ (x.kind = 2 ∨ x.kind = 7 → (stepT t x).1 = t) := by
  have hn : ∀ n, takeM t.post n = none := fun n => by rw [h.post]; simp [takeM]
  constructor
  · rintro (e | e | e)
    · unfold stepT; rw [if_neg (by omega), if_neg (by omega), if_pos e]; unfold deliverT; rw [hn]
    · unfold stepT; rw [if_neg (by omega), if_neg (by omega), if_neg (by omega), if_pos e, hn]; simp
    · unfold stepT; rw [if_neg (by omega), if_neg (by omega), if_neg (by omega), if_neg (by omega), if_pos e, if_pos (by rw [h.post]; rfl)]
  · rintro (e | e)
    · unfold stepT; rw [if_neg (by omega), if_pos e]
      show tickT t = t
      unfold tickT; rw [h.due]; rfl
    · unfold stepT; rw [if_neg (by omega), if_neg (by omega), if_neg (by omega), if_neg (by omega), if_neg (by omega), if_neg (by omega), if_pos e]
      split
      · rfl
      · split
        · rfl
        · rename_i k hk
          rw [(h.inv.k _ k hk).1.crash.1]
          dsimp only
          rw [set_selfE hk]
/-- A shop that forgets all but its records: nothing is other. -/
theorem TInv.forget {t : TownS} (hI : TInv t) {x : StepS} (h : x.kind = 7) : (stepT t x).1 = t := by
  unfold stepT; rw [if_neg (by omega), if_neg (by omega), if_neg (by omega), if_neg (by omega), if_neg (by omega), if_neg (by omega), if_pos h]
  split
  · rfl
  · split
    · rfl
    · rename_i k hk
      rw [(hI.k _ k hk).1.crash.1]
      dsimp only
      rw [set_selfE hk]

end Go.Proofs.YtmakdilmibjpbabGreatDoor

namespace Go.Proofs.YtmakdilmibjpbabGreatDoor
open Go Go.RowKit
set_option linter.unusedVariables false
set_option linter.unusedSimpArgs false
theorem shopsL_len (l : List Want) : (shopsL l).length ≤ 3 := List.length_filter_le _ _
theorem goA_len : ∀ (l : List Want) (ws : List Int) (i : Nat), ws.length = 6 → (goA ws l i).1.length = 6
  | [], ws, i, h => h
  | x :: l, ws, i, h => by
    unfold goA
    split
    · rfl
    · split
      · rfl
      · split
        · rfl
        · exact goA_len l _ _ (by simpa using h)
theorem applyL_len {ws : List Int} {l : List Want} (h6 : ws.length = 6) : (applyL ws l).1.length = 6 := by
  unfold applyL; split
  · rfl
  · exact goA_len l ws 0 h6
theorem applyL_chk {ws : List Int} {l : List Want} (h : (applyL ws l).2.code = 0) : (checkL l).code = 0 := by
  unfold applyL at h; split at h
  · exact h
  · omega
theorem applyL_z {ws : List Int} {l : List Want} (h6 : ws.length = 6) (h : (applyL ws l).2.code ≠ 0) : (applyL ws l).1 = z6 := by
  by_cases hc : (checkL l).code = 0
  · have := (goA_ok l ws 0 h6 ((checkL_ok l).1 hc).2.2).2.2
    unfold applyL at h ⊢
    rw [if_neg (by omega)] at h ⊢
    exact this h
  · unfold applyL; rw [if_pos hc]
theorem applyL_yes {ws : List Int} {l : List Want} (h6 : ws.length = 6) (h : (applyL ws l).2.code = 0) : FitsA ws l ∧ applyL ws l = (addL ws l, ⟨0, 0⟩) ∧ WantsOk l ∧ 0 < l.length ∧ l.length ≤ 4 := by
  have hc := applyL_chk h
  obtain ⟨c1, c2, hw⟩ := (checkL_ok l).1 hc
  have hg := goA_ok l ws 0 h6 hw
  have e : applyL ws l = goA ws l 0 := by unfold applyL; rw [if_neg (by omega)]
  rw [e] at h ⊢
  exact ⟨hg.1.1 h, hg.2.1 (hg.1.1 h), hw, c1, c2⟩
theorem applyL_of {ws : List Int} {l : List Want} (h6 : ws.length = 6) (hc : (checkL l).code = 0) (hf : FitsA ws l) : applyL ws l = (addL ws l, ⟨0, 0⟩) := by
  have hg := goA_ok l ws 0 h6 ((checkL_ok l).1 hc).2.2
  have e : applyL ws l = goA ws l 0 := by unfold applyL; rw [if_neg (by omega)]
  rw [e]; exact hg.2.1 hf
theorem addOf_perm {l m : List Want} (h : l.Perm m) (j : Int) : addOf l j = addOf m j := by
  induction h with
  | nil => rfl
  | cons x _ ih => rw [addOf_cons, addOf_cons, ih]
  | swap x y l => rw [addOf_cons, addOf_cons, addOf_cons, addOf_cons]; omega
  | trans _ _ ih1 ih2 => rw [ih1, ih2]
theorem check_perm {l m : List Want} (h : l.Perm m) (hc : (checkL l).code = 0) : (checkL m).code = 0 := by
  obtain ⟨c1, c2, c3, c4⟩ := (checkL_ok l).1 hc
  have := h.length_eq
  exact (checkL_ok m).2 ⟨by omega, by omega, fun w hw => c3 w (h.mem_iff.2 hw), (h.map _).nodup_iff.1 c4⟩
theorem apply_perm1 {ws : List Int} {l m : List Want} (h6 : ws.length = 6) (hp : l.Perm m) (h : (applyL ws l).2.code = 0) : (applyL ws m).2.code = 0 ∧ (applyL ws l).1 = (applyL ws m).1 := by
  obtain ⟨hf, e, hw, _⟩ := applyL_yes h6 h
  have hm := applyL_of h6 (check_perm hp (applyL_chk h)) (fun w hw => hf w (hp.mem_iff.2 hw))
  rw [e, hm]
  refine ⟨rfl, ?_⟩
  dsimp only [addL]
  refine List.map_congr_left fun j _ => ?_
  rw [addOf_perm hp]
theorem apply_perm {ws : List Int} {l m : List Want} (h6 : ws.length = 6) (hp : l.Perm m) : ((applyL ws l).2.code = 0 ↔ (applyL ws m).2.code = 0) ∧ (applyL ws l).1 = (applyL ws m).1 := by
  by_cases h : (applyL ws l).2.code = 0
  · have := apply_perm1 h6 hp h; exact ⟨⟨fun _ => this.1, fun _ => h⟩, this.2⟩
  · have h2 : ¬ (applyL ws m).2.code = 0 := fun h2 => h (apply_perm1 h6 hp.symm h2).1
    exact ⟨⟨fun a => absurd a h, fun a => absurd a h2⟩, by rw [applyL_z h6 h, applyL_z h6 h2]⟩
def nW (w : Want) : Want := ⟨w.ctr, -w.dl⟩
theorem addOf_neg (l : List Want) (j : Int) : addOf (l.map nW) j = -addOf l j := by
  induction l with
  | nil => rfl
  | cons w l ih =>
    rw [List.map_cons, addOf_cons, addOf_cons, ih]
    simp only [nW]
    split <;> omega
theorem addOf_mem {l : List Want} (hn : (l.map (·.ctr)).Nodup) {w : Want} (hw : w ∈ l) : addOf l w.ctr = w.dl := by
  induction l with
  | nil => cases hw
  | cons y ws ih =>
    simp only [List.map_cons, List.nodup_cons] at hn
    rw [addOf_cons]
    rcases List.mem_cons.1 hw with rfl | hw
    · rw [if_pos rfl, addOf_none (fun z hz hc => hn.1 (List.mem_map.2 ⟨z, hz, hc⟩))]; omega
    · rw [if_neg (fun hc => hn.1 (List.mem_map.2 ⟨w, hw, hc.symm⟩)), ih hn.2 hw]; omega
theorem addL_get (ws : List Int) (l : List Want) {c : Nat} (hc : c < 6) : (addL ws l).getD c 0 = ws.getD c 0 + addOf l c := by
  unfold addL
  rw [List.getD_eq_getElem?_getD, List.getElem?_map, List.getElem?_range hc]; rfl
theorem apply_back {ws : List Int} {l m : List Want} (h6 : ws.length = 6) (h : (applyL ws l).2.code = 0) (hp : (l.map nW).Perm m) : applyL (applyL ws l).1 m = (ws, ⟨0, 0⟩) := by
  obtain ⟨hf, e, hw, c1, c2⟩ := applyL_yes h6 h
  have hlen : (addL ws l).length = 6 := by simp [addL]
  have hchk : (checkL (l.map nW)).code = 0 := by
    refine (checkL_ok _).2 ⟨by simpa using c1, by simpa using c2, fun w hw' => ?_, ?_⟩
    · obtain ⟨x, hx, rfl⟩ := List.mem_map.1 hw'
      have := wantF_ok (hw.1 x hx)
      exact wantF_of (by simp only [nW]; omega)
    · rw [List.map_map]; exact hw.2
  have hfit : FitsA (addL ws l) (l.map nW) := by
    intro w hw'
    obtain ⟨x, hx, rfl⟩ := List.mem_map.1 hw'
    have hk := wantF_ok (hw.1 x hx)
    have hfx := hf x hx
    have ha : addOf l (x.ctr.toNat : Int) = x.dl := by rw [show (x.ctr.toNat : Int) = x.ctr by omega]; exact addOf_mem hw.2 hx
    simp only [nW]
    rw [addL_get _ _ (by omega), ha]; omega
  have h1 := applyL_of hlen hchk hfit
  rw [e]
  dsimp only
  have h2 := apply_perm hlen hp
  have hm := applyL_yes hlen (h2.1.1 (by rw [h1]))
  rw [hm.2.1]
  congr 1
  have h3 := list6 (ws := addL (addL ws l) m) (by simp [addL])
  have h4 := list6 h6
  rw [h3]
  conv => rhs; rw [h4]
  refine List.map_congr_left fun j hj => ?_
  have hj : j < 6 := by simpa using hj
  rw [addL_get _ _ hj, addL_get _ _ hj, ← addOf_perm hp, addOf_neg]; omega
theorem goA_app (b : List Want) : ∀ (a : List Want) (ws : List Int) (i : Nat), goA ws (a ++ b) i = if (goA ws a i).2.code ≠ 0 then goA ws a i else goA (goA ws a i).1 b (i + a.length)
  | [], ws, i => by simp [goA]
  | x :: a, ws, i => by
    simp only [List.cons_append, goA]
    split
    · simp
    · split
      · simp
      · split
        · simp
        · rw [goA_app b a]
          simp only [List.length_cons]
          rw [show i + 1 + a.length = i + (a.length + 1) by omega]
theorem goA_shift (k : Nat) : ∀ (b : List Want) (ws : List Int) (i : Nat), goA ws b (i + k) = ((goA ws b i).1, if (goA ws b i).2.code ≠ 0 then ⟨(goA ws b i).2.code, (goA ws b i).2.at' + k⟩ else (goA ws b i).2)
  | [], ws, i => by simp [goA]
  | x :: b, ws, i => by
    simp only [goA]
    split
    · simp
    · split
      · simp
      · split
        · simp
        · rw [show i + k + 1 = (i + 1) + k by omega]; exact goA_shift k b _ _
theorem check_sub {l m : List Want} (hc : (checkL l).code = 0) (hs : m.Sublist l) (h0 : 0 < m.length) : (checkL m).code = 0 := by
  obtain ⟨c1, c2, c3, c4⟩ := (checkL_ok l).1 hc
  have := hs.length_le
  exact (checkL_ok m).2 ⟨h0, by omega, fun w hw => c3 w (hs.mem hw), (hs.map _).nodup c4⟩
theorem apply_join {ws : List Int} {l : List Want} {k : Nat} (hc : (checkL l).code = 0) (h1 : 0 < k) (h2 : k < l.length) :
    ((applyL ws (l.take k)).2.code ≠ 0 → (applyL ws l).2 = (applyL ws (l.take k)).2) ∧ ((applyL ws (l.take k)).2.code = 0 →
      ((applyL (applyL ws (l.take k)).1 (l.drop k)).2.code ≠ 0 → (applyL ws l).2 = ⟨(applyL (applyL ws (l.take k)).1 (l.drop k)).2.code, (applyL (applyL ws (l.take k)).1 (l.drop k)).2.at' + k⟩) ∧
      ((applyL (applyL ws (l.take k)).1 (l.drop k)).2.code = 0 → (applyL ws l).2.code = 0 ∧ (applyL ws l).1 = (applyL (applyL ws (l.take k)).1 (l.drop k)).1)) := by
  have ht := check_sub hc (List.take_sublist k l) (by simp; omega)
  have hd := check_sub hc (List.drop_sublist k l) (by simp; omega)
  have e : ∀ (ws : List Int) (m : List Want), (checkL m).code = 0 → applyL ws m = goA ws m 0 := fun ws m h => by unfold applyL; rw [if_neg (by omega)]
  rw [e _ _ hc, e _ _ ht, e _ _ hd]
  have ha := goA_app (l.drop k) (l.take k) ws 0
  rw [List.take_append_drop] at ha
  have hs := goA_shift k (l.drop k) (goA ws (l.take k) 0).1 0
  have hl : 0 + (l.take k).length = 0 + k := by simp; omega
  rw [hl, hs] at ha
  refine ⟨fun h => by rw [ha, if_pos h], fun h => ⟨fun h3 => ?_, fun h3 => ?_⟩⟩
  · rw [ha, if_neg (by omega)]; dsimp only; rw [if_pos h3]
  · rw [ha, if_neg (by omega)]; dsimp only; rw [if_neg (by omega)]; exact ⟨h3, rfl⟩
theorem rev_step {α : Type} {l : List α} {k : Nat} {w : α} (h : l[k]? = some w) : (l.drop k).reverse = (l.drop (k + 1)).reverse ++ [w] := by
  obtain ⟨hk, rfl⟩ := List.getElem?_eq_some_iff.1 h
  rw [List.drop_eq_getElem_cons hk]; simp

theorem scanW_at : ∀ (l pre : List Want), 0 ≤ (scanW pre l).at' ∧ (scanW pre l).at' ≤ pre.length + l.length
  | [], pre => by simp [scanW]
  | w :: l, pre => by
    unfold scanW
    split
    · simp; omega
    · split
      · simp; omega
      · have := scanW_at l (pre ++ [w])
        simp at this ⊢; omega
theorem goA_at' : ∀ (l : List Want) (ws : List Int) (i : Nat), 0 ≤ (goA ws l i).2.at' ∧ (goA ws l i).2.at' ≤ i + l.length
  | [], ws, i => by simp [goA]
  | x :: l, ws, i => by
    unfold goA
    split
    · simp; omega
    · split
      · simp; omega
      · split
        · simp; omega
        · have := goA_at' l (ws.set x.ctr.toNat (ws.getD x.ctr.toNat 0 + x.dl)) (i + 1)
          simp only [List.length_cons]; omega
theorem applyL_at (ws : List Int) (l : List Want) : -1 ≤ (applyL ws l).2.at' ∧ (applyL ws l).2.at' ≤ l.length := by
  unfold applyL
  split
  · unfold checkL
    split
    · simp
    · split
      · simp
      · have := scanW_at l []; simp at this ⊢; omega
  · have := goA_at' l ws 0; omega
theorem addOf_bound {l : List Want} (h : ∀ w ∈ l, -100 ≤ w.dl ∧ w.dl ≤ 100) (k : Int) : -(100 * (l.length : Int)) ≤ addOf l k ∧ addOf l k ≤ 100 * l.length := by
  induction l with
  | nil => simp [addOf_nil]
  | cons w l ih =>
    have := ih (fun x hx => h x (by simp [hx])); have := h w (by simp)
    rw [addOf_cons]; simp only [List.length_cons]; split <;> omega
theorem addOf_take {l : List Want} {i : Nat} {w : Want} (h : l[i]? = some w) (k : Int) : addOf (l.take (i + 1)) k = addOf (l.take i) k + if w.ctr = k then w.dl else 0 := by
  have : ∀ (a b : List Want), addOf (a ++ b) k = addOf a k + addOf b k := fun a b => by
    induction a with
    | nil => simp [addOf_nil]
    | cons x a ih => rw [List.cons_append, addOf_cons, addOf_cons, ih]; omega
  rw [List.take_add_one, h, this]; simp [addOf_cons, addOf_nil]
theorem addOf_ne {l : List Want} {k : Int} (h : addOf l k ≠ 0) : ∃ w ∈ l, w.ctr = k := by
  induction l with
  | nil => exact absurd rfl h
  | cons w l ih =>
    rw [addOf_cons] at h
    by_cases hc : w.ctr = k
    · exact ⟨w, by simp, hc⟩
    · rw [if_neg hc] at h
      obtain ⟨x, hx, e⟩ := ih (by omega)
      exact ⟨x, by simp [hx], e⟩
theorem apart_at {ws : List Int} {l : List Want} (h6 : ws.length = 6) (h : (applyL ws l).2.code = 0) {k : Nat} (hk : k < 6) :
    (applyL ws l).1.getD k 0 = ws.getD k 0 + addOf l k ∧ (addOf l k ≠ 0 → 0 ≤ ws.getD k 0 + addOf l k ∧ ws.getD k 0 + addOf l k ≤ 100) ∧ (addOf l k = 0 ∨ (0 ≤ ws.getD k 0 ∧ ws.getD k 0 ≤ 100)) := by
  obtain ⟨hf, e, hw, _⟩ := applyL_yes h6 h
  refine ⟨by rw [e]; exact addL_get ws l hk, fun hne => ?_, ?_⟩
  · obtain ⟨w, hw', e⟩ := addOf_ne hne
    have := hf w hw'
    have ha := addOf_mem hw.2 hw'
    rw [e] at ha
    rw [ha, show k = w.ctr.toNat by omega]; omega
  · by_cases hne : addOf l k = 0
    · exact .inl hne
    · obtain ⟨w, hw', e⟩ := addOf_ne hne
      have := hf w hw'
      rw [show k = w.ctr.toNat by omega]; exact .inr ⟨by omega, by omega⟩
theorem shopsL_has {l : List Want} {w : Want} (hw : w ∈ l) (hk : wantF w = 0) : shopOf w.ctr ∈ shopsL l ∧ 0 ≤ shopOf w.ctr ∧ shopOf w.ctr < 3 := by
  have := wantF_ok hk
  have e := shopOf_ok this.1 this.2.1
  unfold shopsL
  rw [List.mem_filter, List.any_eq_true]
  simp only [List.mem_cons, List.not_mem_nil, or_false]
  exact ⟨⟨by omega, w, hw, by simp⟩, by omega, by omega⟩
theorem shopsL_at {l : List Want} {i : Nat} {s : Int} (h : (shopsL l)[i]? = some s) : 0 ≤ s ∧ s < 3 ∧ ∃ w ∈ l, shopOf w.ctr = s := by
  have hm := List.mem_of_getElem? h
  unfold shopsL at hm
  rw [List.mem_filter, List.any_eq_true] at hm
  simp only [List.mem_cons, List.not_mem_nil, or_false, decide_eq_true_eq] at hm
  exact ⟨by omega, by omega, hm.2⟩
theorem shopsL_lt {l : List Want} {i j : Nat} {s t : Int} (h : (shopsL l)[i]? = some s) (h2 : (shopsL l)[j]? = some t) (hij : i < j) : s < t := by
  have hp : (shopsL l).Pairwise (· < ·) := List.Pairwise.filter _ (by decide)
  obtain ⟨hi, rfl⟩ := List.getElem?_eq_some_iff.1 h
  obtain ⟨hj, rfl⟩ := List.getElem?_eq_some_iff.1 h2
  exact List.pairwise_iff_getElem.1 hp i j hi hj hij

end Go.Proofs.YtmakdilmibjpbabGreatDoor
