/- Calm, in plain Lean. No program in sight. -/
import Derived.Test.YtmakdilmibjpbabGreatDoorTinv
namespace Go.Proofs.YtmakdilmibjpbabGreatDoor
open Go Go.RowKit
set_option linter.unusedVariables false
set_option linter.unusedSimpArgs false
/-! ### Calm -/
def AllAsked (t : TownS) : Prop := ∀ (n : Nat) d, t.b.l[n]? = some d → d.state = 0 → ∀ (i : Nat) w, d.wants[i]? = some w → d.yes[i]? = some true ∨ ∃ m ∈ t.post, m.deal = n ∧ m.ctr = w.ctr ∧ m.dl = w.dl ∧ (m.kind = 1 ∨ m.kind = 2)
def AllDec (t : TownS) : Prop := ∀ d ∈ t.b.l, d.state ≠ 0
def AllTold (t : TownS) : Prop := ∀ (n : Nat) d, t.b.l[n]? = some d → ∀ s ∈ shopsL d.wants, s ∈ d.over ∨ ∃ m ∈ t.post, m.deal = n ∧ m.shop = s ∧ (m.kind = 3 ∨ m.kind = 4)
theorem perm_at2 {α : Type} {l : List α} {i : Nat} {a : α} (h : l[i]? = some a) : l.Perm (a :: (l.take i ++ l.drop (i + 1))) := by
  obtain ⟨hi, rfl⟩ := List.getElem?_eq_some_iff.1 h
  have e : l = l.take i ++ l[i] :: l.drop (i + 1) := by rw [← List.drop_eq_getElem_cons hi, List.take_append_drop]
  conv => lhs; rw [e]
  exact List.perm_middle
theorem mem_take {l : List Mail} {n : Int} {m x : Mail} (hm : takeM l n = some m) (h : x ∈ l) : x = m ∨ x ∈ takeL l n := by
  have := (perm_at2 hm).mem_iff (a := x)
  rw [this] at h
  rcases List.mem_cons.1 h with h | h
  · exact .inl h
  · exact .inr h
theorem takeL_lt {l : List Mail} {n : Int} {m : Mail} (hm : takeM l n = some m) : (takeL l n).length + 1 = l.length := by
  have h := (List.getElem?_eq_some_iff.1 hm).1
  unfold takeL; simp; omega
theorem send_in {l : List Mail} {m : Mail} (h : l.length < 40) : sendL l m = l ++ [m] := by unfold sendL; rw [if_pos h]
/-- What one mail that comes does. -/
inductive DelC (t : TownS) (m : Mail) : TownS → Prop
  | hear (k : m.kind = 2 ∨ m.kind = 4) : DelC t m { t with post := takeL t.post 0, b := hearB t.b m }
  | ans (k : KeepS) (x : Mail) (hk : t.ks[m.shop.toNat]? = some k) (ha : (ansK k m).2 = some x) (hx : (m.kind = 1 ∧ x = { m with kind := 2, yes := x.yes }) ∨ (m.kind = 3 ∧ x = { m with kind := 4 })) : DelC t m { t with ks := t.ks.set m.shop.toNat (ansK k m).1, post := takeL t.post 0 ++ [x] }
theorem TInv.delC {t : TownS} (hI : TInv t) (h : 0 < t.post.length) : ∃ m, takeM t.post 0 = some m ∧ MOk t m ∧ DelC t m (deliverT t 0).1 := by
  obtain ⟨m, hm⟩ := takeM_some' (l := t.post) 0 h
  have hmk := hI.mail m (List.mem_of_getElem? hm)
  obtain ⟨s0, s3⟩ := hmk.shop0 hI
  refine ⟨m, hm, hmk, ?_⟩
  unfold deliverT; rw [hm]; dsimp only
  split
  · rename_i hk; exact .hear hk
  · rename_i hkind
    rw [if_neg (by omega)]
    have hlt : m.shop.toNat < t.ks.length := by have := hI.len; omega
    rw [List.getElem?_eq_getElem hlt]
    dsimp only
    generalize hkk : t.ks[m.shop.toNat] = k
    have hk : t.ks[m.shop.toNat]? = some k := by rw [List.getElem?_eq_getElem hlt, hkk]
    obtain ⟨_, x, hx, _, a3, _⟩ := hI.answer hmk hk s0 hkind
    rw [hx]; dsimp only
    rw [send_in (by have := takeL_lt hm; have := hI.full; omega)]
    exact .ans k x hk hx a3
theorem AllAsked.deliver {t : TownS} (hI : TInv t) (hA : AllAsked t) (h : 0 < t.post.length) : AllAsked (deliverT t 0).1 := by
  obtain ⟨m, hm, hmk, hD⟩ := hI.delC h
  generalize (deliverT t 0).1 = t' at hD
  cases hD with
  | hear k =>
    intro n d' hd' h0 i w hw
    have hd' : (hearB t.b m).l[n]? = some d' := hd'
    have hlt : n < t.b.l.length := by have := (List.getElem?_eq_some_iff.1 hd').1; rw [hear_len] at this; exact this
    obtain ⟨d, hd⟩ : ∃ d, t.b.l[n]? = some d := ⟨_, List.getElem?_eq_getElem hlt⟩
    obtain ⟨d2, e1, e2, e3⟩ := hear_l hI.b m hd
    rw [hd'] at e1; cases e1
    by_cases hne : (n : Int) = m.deal
    · have hr := e3 hne
      obtain ⟨z1, z2, z3⟩ := hr.z h0
      rw [hr.w] at hw
      rcases hA n d hd z1 i w hw with hy | ⟨x, hx, x1, x2, x3, x4⟩
      · exact .inl (z2 i hy)
      · rcases mem_take hm hx with rfl | hx
        · refine .inl (z3 (by omega) ?_ i ?_)
          · cases hmk with
            | say _ _ s => exact s.symm
            | ask k' => omega
            | end' k' => omega
            | over k' => omega
          · rw [hw, x2, x3]
        · exact .inr ⟨x, hx, x1, x2, x3, x4⟩
    · have := e2 hne; subst this
      rcases hA n d' hd h0 i w hw with hy | ⟨x, hx, x1, x2, x3, x4⟩
      · exact .inl hy
      · rcases mem_take hm hx with rfl | hx
        · exact absurd x1.symm hne
        · exact .inr ⟨x, hx, x1, x2, x3, x4⟩
  | ans k y hk ha hy =>
    intro n d hd h0 i w hw
    rcases hA n d hd h0 i w hw with hy' | ⟨x, hx, x1, x2, x3, x4⟩
    · exact .inl hy'
    · rcases mem_take hm hx with rfl | hx
      · refine .inr ⟨y, List.mem_append_right _ (by simp), ?_⟩
        have : ¬ x.kind = 2 := by rcases hy with ⟨h, _⟩ | ⟨h, _⟩ <;> omega
        rcases hy with ⟨_, e⟩ | ⟨h3, _⟩
        · rw [e]; exact ⟨x1, x2, x3, .inr rfl⟩
        · omega
      · exact .inr ⟨x, List.mem_append_left _ hx, x1, x2, x3, x4⟩
theorem AllDec.deliver {t : TownS} (hI : TInv t) (hA : AllDec t) (h : 0 < t.post.length) : AllDec (deliverT t 0).1 := by
  obtain ⟨m, hm, hmk, hD⟩ := hI.delC h
  generalize (deliverT t 0).1 = t' at hD
  cases hD with
  | hear k =>
    intro d' hd'
    obtain ⟨n, hlt, rfl⟩ := List.mem_iff_getElem.1 hd'
    have hlt' : n < t.b.l.length := by rw [← hear_len t.b m]; exact hlt
    have hd : t.b.l[n]? = some t.b.l[n] := List.getElem?_eq_getElem hlt'
    obtain ⟨d2, e1, e2, e3⟩ := hear_l hI.b m hd
    have e1 : (hearB t.b m).l[n]? = some d2 := e1
    rw [List.getElem?_eq_getElem hlt] at e1
    cases e1
    have h0 := hA t.b.l[n] (List.getElem_mem _)
    by_cases hne : (n : Int) = m.deal
    · rw [(e3 hne).st h0]; exact h0
    · rw [e2 hne]; exact h0
  | ans => exact hA
theorem AllTold.deliver {t : TownS} (hI : TInv t) (hD0 : AllDec t) (hA : AllTold t) (h : 0 < t.post.length) : AllTold (deliverT t 0).1 := by
  obtain ⟨m, hm, hmk, hD⟩ := hI.delC h
  generalize (deliverT t 0).1 = t' at hD
  cases hD with
  | hear k =>
    intro n d' hd' s hs
    have hd' : (hearB t.b m).l[n]? = some d' := hd'
    have hlt : n < t.b.l.length := by have := (List.getElem?_eq_some_iff.1 hd').1; rw [hear_len] at this; exact this
    obtain ⟨d, hd⟩ : ∃ d, t.b.l[n]? = some d := ⟨_, List.getElem?_eq_getElem hlt⟩
    have h0 := hD0 d (List.mem_of_getElem? hd)
    obtain ⟨d2, e1, e2, e3⟩ := hear_l hI.b m hd
    rw [hd'] at e1; cases e1
    by_cases hne : (n : Int) = m.deal
    · have hr := e3 hne
      rw [hr.w] at hs
      rcases hA n d hd s hs with hy | ⟨x, hx, x1, x2, x3⟩
      · exact .inl (hr.ov s hy)
      · rcases mem_take hm hx with rfl | hx
        · exact .inl (by rw [← x2]; exact hr.o4 (by omega) h0 (by rw [x2]; exact hs))
        · exact .inr ⟨x, hx, x1, x2, x3⟩
    · have := e2 hne; subst this
      rcases hA n d' hd s hs with hy | ⟨x, hx, x1, x2, x3⟩
      · exact .inl hy
      · rcases mem_take hm hx with rfl | hx
        · exact absurd x1.symm hne
        · exact .inr ⟨x, hx, x1, x2, x3⟩
  | ans k y hk ha hy =>
    intro n d hd s hs
    rcases hA n d hd s hs with hy' | ⟨x, hx, x1, x2, x3⟩
    · exact .inl hy'
    · rcases mem_take hm hx with rfl | hx
      · refine .inr ⟨y, List.mem_append_right _ (by simp), ?_⟩
        rcases hy with ⟨h1, _⟩ | ⟨_, e⟩
        · omega
        · rw [e]; exact ⟨x1, x2, .inr rfl⟩
      · exact .inr ⟨x, List.mem_append_left _ hx, x1, x2, x3⟩
/-- What each mail that comes keeps, is kept till there is none. -/
theorem drain_ind (φ : TownS → Prop) (hφ : ∀ t, TInv t → φ t → 0 < t.post.length → φ (deliverT t 0).1) : ∀ (n : Nat) (t : TownS), wgtL t.post = n → TInv t → φ t → φ (drainT t) := by
  intro n
  induction n using Nat.strongRecOn with
  | ind n ih =>
    intro t hn hI h
    unfold drainT
    split
    · rename_i hp
      have : wgtL (deliverT t 0).1.post < wgtL t.post := by obtain ⟨m, hm⟩ := takeM_some' (l := t.post) 0 hp; exact deliver_wgt hm
      exact ih _ (by omega) _ rfl (hI.deliver 0) (hφ t hI h hp)
    · exact h
theorem dueL_len : ∀ {l : List Deal} {n : Int}, (∀ d ∈ l, DOk d) → (dueL n l).length ≤ 4 * l.length
  | [], _, _ => by simp [dueL]
  | d :: l, n, h => by
    have ih := dueL_len (l := l) (n := n + 1) (fun x hx => h x (by simp [hx]))
    have hd := h d (by simp)
    have h4 := ((checkL_ok _).1 hd.w).2.1
    simp only [dueL, List.length_append, List.length_cons]
    have : (dueD n d).length ≤ 4 := by
      unfold dueD
      split
      · rw [List.length_map]
        have h1 := List.length_filter_le (fun s => !d.over.contains s) (shopsL d.wants)
        have h2 : (shopsL d.wants).length ≤ 3 := List.length_filter_le _ _
        omega
      · have := dueW_len (n := n) d.wants d.yes; omega
    omega
theorem BInv.due_len {b : BrokS} (h : BInv b) : (dueB b).length ≤ 32 := by
  have := dueL_len (n := 0) h.d
  have := h.len
  unfold dueB; omega
theorem foldl_send_all : ∀ {l p : List Mail}, p.length + l.length ≤ 40 → l.foldl sendL p = p ++ l
  | [], p, _ => by simp
  | m :: l, p, h => by
    simp only [List.length_cons] at h
    simp only [List.foldl_cons]
    rw [send_in (by omega), foldl_send_all (by simp; omega)]
    simp
theorem tick_post {t : TownS} (hI : TInv t) (hp : t.post = []) : (tickT t).post = dueB t.b := by
  unfold tickT; dsimp only
  rw [hp, foldl_send_all (by have := hI.b.due_len; simp; omega)]; simp
theorem dueW_all {n : Int} : ∀ {l : List Want} {k : List Bool} {i : Nat} {w : Want}, k.length = l.length → l[i]? = some w → k[i]? = some true ∨ ⟨1, n, shopOf w.ctr, w.ctr, w.dl, false⟩ ∈ dueW n l k
  | [], _, _, _, _, h => by simp at h
  | _ :: _, [], _, _, h, _ => by simp at h
  | x :: l, y :: k, i, w, hl, h => by
    simp only [List.length_cons, Nat.add_right_cancel_iff] at hl
    cases i with
    | zero =>
      simp at h; subst h
      cases y with
      | true => exact .inl rfl
      | false => exact .inr (by simp [dueW])
    | succ i =>
      rcases dueW_all (n := n) (l := l) (k := k) (i := i) hl (by simpa using h) with h1 | h1
      · exact .inl (by simpa using h1)
      · refine .inr ?_
        simp only [dueW]; split
        · exact h1
        · exact List.mem_cons_of_mem _ h1
theorem tick_asked {t : TownS} (hI : TInv t) (hp : t.post = []) : AllAsked (tickT t) := by
  intro n d hd h0 i w hw
  have hd : t.b.l[n]? = some d := hd
  have hk := hI.b.d d (List.mem_of_getElem? hd)
  rcases dueW_all (n := (n : Int)) hk.y hw with h | h
  · exact .inl h
  · refine .inr ⟨⟨1, n, shopOf w.ctr, w.ctr, w.dl, false⟩, ?_, rfl, rfl, rfl, .inl rfl⟩
    rw [tick_post hI hp]
    refine dueB_mem.2 ⟨n, d, hd, ?_⟩
    unfold dueD; rw [if_neg (by omega)]; exact h
theorem tick_told {t : TownS} (hI : TInv t) (hp : t.post = []) (hD : AllDec t) : AllTold (tickT t) := by
  intro n d hd s hs
  have hd : t.b.l[n]? = some d := hd
  by_cases h : s ∈ d.over
  · exact .inl h
  · refine .inr ⟨⟨3, n, s, 0, 0, decide (d.state = 1)⟩, ?_, rfl, rfl, .inl rfl⟩
    rw [tick_post hI hp]
    refine dueB_mem.2 ⟨n, d, hd, ?_⟩
    unfold dueD; rw [if_pos (hD d (List.mem_of_getElem? hd))]
    exact List.mem_map.2 ⟨s, List.mem_filter.2 ⟨hs, by simpa using h⟩, rfl⟩
theorem asked_dec {t : TownS} (hI : TInv t) (hp : t.post = []) (hA : AllAsked t) : AllDec t := by
  intro d hd h0
  obtain ⟨n, hlt, rfl⟩ := List.mem_iff_getElem.1 hd
  have hk := hI.b.d _ hd
  have hc := (hk.op h0).2
  rw [List.contains_iff_mem] at hc
  obtain ⟨i, hi, e⟩ := List.mem_iff_getElem.1 hc
  have hi2 : i < t.b.l[n].wants.length := by rw [← hk.y]; exact hi
  rcases hA n _ (List.getElem?_eq_getElem hlt) h0 i _ (List.getElem?_eq_getElem hi2) with h | ⟨m, hm, _⟩
  · rw [List.getElem?_eq_getElem hi, e] at h; cases h
  · rw [hp] at hm; cases hm
theorem told_due {t : TownS} (hp : t.post = []) (hD : AllDec t) (hA : AllTold t) : dueB t.b = [] := by
  refine List.eq_nil_iff_forall_not_mem.2 fun m hm => ?_
  obtain ⟨n, d, hd, h⟩ := dueB_mem.1 hm
  rcases dueD_mem h with ⟨_, s, hs, hno, _⟩ | ⟨h0, _⟩
  · rcases hA n d hd s hs with h | ⟨x, hx, _⟩
    · exact hno h
    · rw [hp] at hx; cases hx
  · exact hD d (List.mem_of_getElem? hd) h0
/-- All is calm: no mail, nothing due. -/
structure CalmS (t : TownS) : Prop where
  inv : TInv t
  post : t.post = []
  due : dueB t.b = []
theorem calm_ind (φ : TownS → Prop) (hφ : ∀ t, TInv t → φ t → 0 < t.post.length → φ (deliverT t 0).1) (ht : ∀ t, TInv t → φ t → t.post = [] → φ (tickT t)) {t : TownS} (hI : TInv t) (h : φ t) :
    CalmS (calmT t).1 ∧ φ (calmT t).1 ∧ 0 ≤ (calmT t).2 ∧ (calmT t).2 ≤ 2 := by
  have a1 := hI.drain; have p1 := drain_post t; have f1 := drain_ind φ hφ _ t rfl hI h
  unfold calmT calmN
  by_cases d1 : (dueB (drainT t).b).length = 0
  · rw [if_pos d1]
    exact ⟨⟨a1, p1, List.eq_nil_of_length_eq_zero d1⟩, f1, by simp, by simp⟩
  rw [if_neg d1]
  have b2 := a1.tick
  have a2 := b2.drain; have p2 := drain_post (tickT (drainT t)); have f2 := drain_ind φ hφ _ _ rfl b2 (ht _ a1 f1 p1)
  have dec2 := asked_dec a2 p2 (drain_ind AllAsked (fun t h1 h2 h3 => h2.deliver h1 h3) _ _ rfl b2 (tick_asked a1 p1))
  unfold calmN
  generalize drainT (tickT (drainT t)) = t2 at a2 p2 f2 dec2
  by_cases d2 : (dueB t2.b).length = 0
  · rw [if_pos d2]
    exact ⟨⟨a2, p2, List.eq_nil_of_length_eq_zero d2⟩, f2, by simp, by simp⟩
  rw [if_neg d2]
  have b3 := a2.tick
  have a3 := b3.drain; have p3 := drain_post (tickT t2); have f3 := drain_ind φ hφ _ _ rfl b3 (ht _ a2 f2 p2)
  have hboth := drain_ind (fun t => AllDec t ∧ AllTold t) (fun t h1 h2 h3 => ⟨h2.1.deliver h1 h3, h2.2.deliver h1 h2.1 h3⟩) _ _ rfl b3 ⟨dec2, tick_told a2 p2 dec2⟩
  have due3 := told_due p3 hboth.1 hboth.2
  unfold calmN
  rw [if_pos (by rw [due3]; rfl)]
  exact ⟨⟨a3, p3, due3⟩, f3, by simp, by simp⟩
theorem TInv.calm {t : TownS} (hI : TInv t) : CalmS (calmT t).1 ∧ 0 ≤ (calmT t).2 ∧ (calmT t).2 ≤ 2 := by
  have := calm_ind (fun _ => True) (fun _ _ _ _ => trivial) (fun _ _ _ _ => trivial) hI trivial
  exact ⟨this.1, this.2.2⟩
theorem CalmS.dec {t : TownS} (h : CalmS t) : AllDec t := by
  intro d hd h0
  obtain ⟨n, hlt, rfl⟩ := List.mem_iff_getElem.1 hd
  have hk := h.inv.b.d _ hd
  have hc := (hk.op h0).2
  rw [List.contains_iff_mem] at hc
  obtain ⟨i, hi, e⟩ := List.mem_iff_getElem.1 hc
  have hi2 : i < t.b.l[n].wants.length := by rw [← hk.y]; exact hi
  rcases dueW_all (n := (n : Int)) hk.y (List.getElem?_eq_getElem hi2) with h1 | h1
  · rw [List.getElem?_eq_getElem hi, e] at h1; cases h1
  · have : _ ∈ dueB t.b := dueB_mem.2 ⟨n, _, List.getElem?_eq_getElem hlt, by unfold dueD; rw [if_neg (by omega)]; exact h1⟩
    rw [h.due] at this; cases this
theorem CalmS.st {t : TownS} (h : CalmS t) {n : Int} (h0 : 0 ≤ n) (hl : n < t.b.l.length) : decd t.b n := by
  obtain ⟨d, hd, e⟩ := stateB_in (b := t.b) h0 hl
  have h1 := h.dec d (List.mem_of_getElem? hd)
  have h2 := (h.inv.b.d d (List.mem_of_getElem? hd)).st
  unfold decd; rw [e]; omega
theorem CalmS.holds {t : TownS} (h : CalmS t) {s : Nat} {k : KeepS} (hk : t.ks[s]? = some k) : k.shop.holds = [] := by
  refine List.eq_nil_iff_forall_not_mem.2 fun x hx => ?_
  obtain ⟨k1, k2, k3⟩ := h.inv.k s k hk
  have hw := h.inv.hin s k hk x hx
  obtain ⟨n, d, e, hd, e1, e2⟩ := wantsB_in hw
  have hs := (k1.sh.h x hx)
  have hno : k.shop.no = (s : Int) := k1.no.trans k2
  have hwf := (h.inv.b.wok hw).2.2.2
  have hsh := shopOf_rng hwf
  have hmem : (s : Int) ∈ shopsL d.wants := mem_shopsL.2 ⟨by dsimp only at hsh; omega, _, by rw [← e1]; exact hw, by dsimp only at hsh ⊢; omega⟩
  have hov : (s : Int) ∈ d.over := by
    by_cases h1 : (s : Int) ∈ d.over
    · exact h1
    · exfalso
      have : (⟨3, n, s, 0, 0, decide (d.state = 1)⟩ : Mail) ∈ dueB t.b := dueB_mem.2 ⟨n, d, hd, by
        unfold dueD; rw [if_pos (h.dec d (List.mem_of_getElem? hd))]
        exact List.mem_map.2 ⟨s, List.mem_filter.2 ⟨hmem, by simpa using h1⟩, rfl⟩⟩
      rw [h.due] at this; cases this
  obtain ⟨q, hq, ho⟩ := h.inv.bo n d hd s hov
  simp only [Int.toNat_natCast] at hq
  rw [hk] at hq; cases hq
  rw [← e, hs.2.2.2.2] at ho
  cases ho
theorem TInv.three {t : TownS} (hI : TInv t) : ∃ a b c, t.ks = [a, b, c] := by
  have := hI.len
  match h : t.ks, this with
  | [a, b, c], _ => exact ⟨a, b, c, rfl⟩
theorem TInv.world {t : TownS} (hI : TInv t) (hh : ∀ k ∈ t.ks, k.shop.holds = []) : worldT t = (List.range 6).map (wp t) := by
  obtain ⟨a, b, c, e⟩ := hI.three
  have ha := hh a (by simp [e]); have hb := hh b (by simp [e]); have hc := hh c (by simp [e])
  have : (List.range 6).map (wp t) = [wp t 0, wp t 1, wp t 2, wp t 3, wp t 4, wp t 5] := rfl
  rw [this]
  simp [worldT, wp, e, valS, ha, hb, hc, pendH]
theorem CalmS.serial {t : TownS} (h : CalmS t) : serialT t = (worldT t, 0) := by
  rw [h.inv.ser, h.inv.world fun k hk => by
    obtain ⟨s, hlt, rfl⟩ := List.mem_iff_getElem.1 hk
    exact h.holds (List.getElem?_eq_getElem hlt)]

end Go.Proofs.YtmakdilmibjpbabGreatDoor
