/- Brokers, in plain Lean: what their statements ask. No program in sight. -/
import Derived.Test.YtmakdilmibjpbabGreatDoorBroks
namespace Go.Proofs.YtmakdilmibjpbabGreatDoor
open Go Go.RowKit
set_option linter.unusedVariables false
set_option linter.unusedSimpArgs false
theorem set_selfE {α : Type} {l : List α} {i : Nat} {a : α} (h : l[i]? = some a) : l.set i a = l := by
  obtain ⟨hi, rfl⟩ := List.getElem?_eq_some_iff.1 h
  exact List.set_getElem_self hi
theorem hear_ord (b : BrokS) (m : Mail) : ((hearB b m).order = b.order ∧ ∀ q, stateB (hearB b m) q = 1 → stateB b q = 1) ∨ (0 ≤ m.deal ∧ stateB b m.deal = 0 ∧ (hearB b m).order = b.order ++ [m.deal] ∧ stateB (hearB b m) m.deal = 1) := by
  have same : ((b.order = b.order) ∧ ∀ q, stateB b q = 1 → stateB b q = 1) := ⟨rfl, fun _ h => h⟩
  unfold hearB
  split
  · exact .inl same
  · rename_i h0
    split
    · exact .inl same
    · rename_i d hd
      have hn : ((m.deal.toNat : Nat) : Int) = m.deal := by omega
      have hlt := (List.getElem?_eq_some_iff.1 hd).1
      have hset : ∀ x : Deal, x.state ≠ 1 ∨ x.state = d.state → ((setD b m.deal.toNat x).order = b.order ∧ ∀ q, stateB (setD b m.deal.toNat x) q = 1 → stateB b q = 1) := fun x hx => ⟨rfl, fun q hq => by
        have : stateB ⟨b.l.set m.deal.toNat x, b.order⟩ q = 1 := hq
        rw [stateB_set hlt] at this
        split at this
        · rename_i e; rw [e, stateB_at hd]; omega
        · exact this⟩
      split
      · split
        · exact .inl same
        · split
          · exact .inl same
          · rename_i i hi hs
            have hs : d.state = 0 := by omega
            split
            · refine .inl ?_
              unfold decideB; rw [hd]; dsimp only; rw [if_neg (by omega)]
              exact hset { d with state := 2 } (.inl (by simp))
            · split
              · exact .inl (hset _ (.inr rfl))
              · refine .inr ⟨by omega, by rw [← hn, stateB_at hd]; exact hs, ?_⟩
                unfold decideB setD; dsimp only
                rw [List.getElem?_set_self hlt]
                dsimp only
                rw [if_neg (by omega)]
                refine ⟨by simp [hn], ?_⟩
                rw [stateB_set (b := ⟨b.l.set m.deal.toNat _, b.order⟩) (by simpa using hlt), if_pos hn.symm]
      · split
        · split
          · exact .inl (hset _ (.inr rfl))
          · exact .inl same
        · exact .inl same
theorem wantsB_at {b : BrokS} {n : Nat} {d : Deal} (h : b.l[n]? = some d) : wantsB b (n : Int) = d.wants := by
  unfold wantsB; rw [if_neg (by omega)]; simp [h]
theorem wantsB_in {b : BrokS} {n : Int} {w : Want} (h : w ∈ wantsB b n) : ∃ m d, n = (m : Nat) ∧ b.l[m]? = some d ∧ wantsB b n = d.wants ∧ stateB b n = d.state := by
  unfold wantsB at h
  split at h
  · cases h
  · split at h
    · cases h
    · rename_i h0 d hd
      have e : n = (n.toNat : Nat) := by omega
      exact ⟨n.toNat, d, e, hd, by rw [e]; exact wantsB_at (by simpa using hd), by rw [e]; exact stateB_at (by simpa using hd)⟩
theorem mem_shopsL {l : List Want} {s : Int} : s ∈ shopsL l ↔ (0 ≤ s ∧ s < 3) ∧ ∃ w ∈ l, shopOf w.ctr = s := by
  unfold shopsL
  rw [List.mem_filter, List.any_eq_true]
  simp only [List.mem_cons, List.not_mem_nil, or_false, decide_eq_true_eq]
  constructor
  · rintro ⟨h1, h2⟩; exact ⟨by omega, h2⟩
  · rintro ⟨h1, h2⟩; exact ⟨by omega, h2⟩
structure HearR (d : Deal) (m : Mail) (d' : Deal) : Prop where
  w : d'.wants = d.wants
  st : d.state ≠ 0 → d'.state = d.state
  z : d'.state = 0 → d.state = 0 ∧ (∀ i : Nat, d.yes[i]? = some true → d'.yes[i]? = some true) ∧ (m.kind = 2 → shopOf m.ctr = m.shop → ∀ i : Nat, d.wants[i]? = some ⟨m.ctr, m.dl⟩ → d'.yes[i]? = some true)
  ov : ∀ s ∈ d.over, s ∈ d'.over
  o4 : m.kind = 4 → d.state ≠ 0 → m.shop ∈ shopsL d.wants → m.shop ∈ d'.over
  y2 : (m.kind = 2 → m.yes = true) → d'.state = 2 → d.state = 2
theorem nodup_idx {l : List Want} (h : (l.map (·.ctr)).Nodup) {i j : Nat} {w : Want} (hi : l[i]? = some w) (hj : l[j]? = some w) : i = j := by
  have h1 := (List.getElem?_eq_some_iff.1 hi)
  have h2 := (List.getElem?_eq_some_iff.1 hj)
  have hlt : i < (l.map (·.ctr)).length := by rw [List.length_map]; exact h1.1
  exact (List.getElem?_inj hlt h).1 (by rw [List.getElem?_map, List.getElem?_map, hi, hj])
theorem hear_l {b : BrokS} (hb : BInv b) (m : Mail) {n : Nat} {d : Deal} (hd : b.l[n]? = some d) : ∃ d', (hearB b m).l[n]? = some d' ∧ ((n : Int) ≠ m.deal → d' = d) ∧ ((n : Int) = m.deal → HearR d m d') := by
  have hn := (List.getElem?_eq_some_iff.1 hd).1
  have hk := hb.d d (List.mem_of_getElem? hd)
  have hnd := ((checkL_ok _).1 hk.w).2.2.2
  by_cases hne : (n : Int) = m.deal
  · have e : m.deal.toNat = n := by omega
    have refl' : (m.kind = 2 → shopOf m.ctr = m.shop → ∀ i : Nat, d.wants[i]? = some ⟨m.ctr, m.dl⟩ → d.state = 0 → d.yes[i]? = some true) → (m.kind = 4 → d.state ≠ 0 → m.shop ∈ shopsL d.wants → m.shop ∈ d.over) → HearR d m d :=
      fun h1 h2 => ⟨rfl, fun _ => rfl, fun h0 => ⟨h0, fun _ h => h, fun a b i c => h1 a b i c h0⟩, fun _ h => h, h2, fun _ h => h⟩
    unfold hearB
    rw [if_neg (by omega), e, hd]
    dsimp only
    split
    · rename_i hk2
      split
      · rename_i hi
        refine ⟨d, hd, fun _ => rfl, fun _ => refl' (fun _ _ i hw _ => absurd (List.mem_of_getElem? hw) (atW_none hi)) (fun h => by omega)⟩
      · rename_i i hi
        obtain ⟨hwi, _⟩ := atW_some hi
        have hil := (List.getElem?_eq_some_iff.1 hwi).1
        split
        · rename_i hs
          refine ⟨d, hd, fun _ => rfl, fun _ => refl' (fun _ h1 j hw h0 => by omega) (fun h => by omega)⟩
        · rename_i hs
          have hs : shopOf m.ctr = m.shop ∧ d.state = 0 := by omega
          have hyes : ∀ j : Nat, d.wants[j]? = some ⟨m.ctr, m.dl⟩ → (d.yes.set i true)[j]? = some true := fun j hj => by
            have := nodup_idx hnd hwi hj
            subst this
            rw [List.getElem?_set_self (by rw [hk.y]; exact hil)]
          have hmono : ∀ j : Nat, d.yes[j]? = some true → (d.yes.set i true)[j]? = some true := fun j hj => by
            rw [List.getElem?_set]
            split
            · rename_i e; subst e; rw [if_pos (List.getElem?_eq_some_iff.1 hj).1]
            · exact hj
          split
          · rename_i hno
            refine ⟨{ d with state := 2 }, ?_, fun h => absurd hne h, fun _ => ⟨rfl, fun h => absurd hs.2 h, fun h => (by cases h), fun _ h => h, (fun h => by omega), fun h => by rw [h hk2] at hno; cases hno⟩⟩
            unfold decideB; rw [hd]; dsimp only; rw [if_neg (by omega)]
            exact List.getElem?_set_self hn
          · split
            · refine ⟨{ d with yes := d.yes.set i true }, List.getElem?_set_self hn, fun h => absurd hne h, fun _ => ⟨rfl, fun _ => rfl, fun h => ⟨h, hmono, fun _ _ => hyes⟩, fun _ h => h, (fun h => by omega), fun _ h => h⟩⟩
            · refine ⟨{ d with yes := d.yes.set i true, state := 1 }, ?_, fun h => absurd hne h, fun _ => ⟨rfl, fun h => absurd hs.2 h, fun h => (by cases h), fun _ h => h, (fun h => by omega), fun _ h => (by cases h)⟩⟩
              unfold decideB setD; dsimp only; rw [List.getElem?_set_self hn]; dsimp only; rw [if_neg (by omega)]
              dsimp only
              rw [List.getElem?_set_self (by simpa using hn)]
    · rename_i hk2
      split
      · rename_i hk4
        split
        · rename_i hc
          refine ⟨{ d with over := d.over ++ [m.shop] }, List.getElem?_set_self hn, fun h => absurd hne h, fun _ => ⟨rfl, fun _ => rfl, fun h => absurd h hc.1, fun s h => List.mem_append_left _ h, (fun _ _ _ => by simp), fun _ h => h⟩⟩
        · rename_i hc
          refine ⟨d, hd, fun _ => rfl, fun _ => refl' (fun h => by omega) (fun _ h1 h2 => ?_)⟩
          by_cases h3 : m.shop ∈ d.over
          · exact h3
          · exact absurd ⟨h1, by simpa using h2, by simpa using h3⟩ hc
      · exact ⟨d, hd, fun _ => rfl, fun _ => refl' (fun h => by omega) (fun h => by omega)⟩
  · refine ⟨d, ?_, fun _ => rfl, fun h => absurd h hne⟩
    have hset : ∀ (x : Deal) (o : List Int), 0 ≤ m.deal → (b.l.set m.deal.toNat x)[n]? = some d := fun x _ h0 => by
      rw [List.getElem?_set_ne (by omega)]; exact hd
    unfold hearB
    split
    · exact hd
    · rename_i h0
      split
      · exact hd
      · rename_i q hq
        split
        · split
          · exact hd
          · split
            · exact hd
            · split
              · unfold decideB; rw [hq]; dsimp only; split
                · exact hd
                · exact hset _ [] (by omega)
              · split
                · exact hset _ [] (by omega)
                · unfold decideB setD; dsimp only
                  rw [List.getElem?_set_self (List.getElem?_eq_some_iff.1 hq).1]
                  dsimp only
                  split
                  · exact hset _ [] (by omega)
                  · dsimp only
                    rw [List.getElem?_set_ne (by omega)]
                    exact hset _ [] (by omega)
        · split
          · split
            · exact hset _ [] (by omega)
            · exact hd
          · exact hd
theorem hear_len (b : BrokS) (m : Mail) : (hearB b m).l.length = b.l.length := by
  have hdec : ∀ (b : BrokS) n s, (decideB b n s).l.length = b.l.length := fun b n s => by
    unfold decideB; split
    · rfl
    · split
      · rfl
      · simp
  unfold hearB
  split
  · rfl
  · split
    · rfl
    · split
      · split
        · rfl
        · split
          · rfl
          · split
            · exact hdec _ _ _
            · split
              · simp [setD]
              · rw [hdec]; simp [setD]
      · split
        · split
          · simp [setD]
          · rfl
        · rfl
theorem hear_wants {b : BrokS} (hb : BInv b) (m : Mail) (n : Int) : wantsB (hearB b m) n = wantsB b n := by
  unfold wantsB
  split
  · rfl
  · rename_i h0
    by_cases hlt : n.toNat < b.l.length
    · obtain ⟨d', e1, e2, e3⟩ := hear_l hb m (List.getElem?_eq_getElem hlt)
      rw [e1, List.getElem?_eq_getElem hlt]
      dsimp only
      by_cases h : ((n.toNat : Nat) : Int) = m.deal
      · exact (e3 h).w
      · rw [e2 h]
    · rw [List.getElem?_eq_none (by rw [hear_len]; omega), List.getElem?_eq_none (by omega)]
theorem dueW_mem {n : Int} : ∀ {l : List Want} {k : List Bool} {m : Mail}, m ∈ dueW n l k → ∃ w ∈ l, m = ⟨1, n, shopOf w.ctr, w.ctr, w.dl, false⟩
  | [], _, _, h => by simp [dueW] at h
  | _ :: _, [], _, h => by simp [dueW] at h
  | w :: l, y :: k, m, h => by
    simp only [dueW] at h
    split at h
    · obtain ⟨x, hx, e⟩ := dueW_mem h; exact ⟨x, by simp [hx], e⟩
    · rcases List.mem_cons.1 h with rfl | h
      · exact ⟨w, by simp, rfl⟩
      · obtain ⟨x, hx, e⟩ := dueW_mem h; exact ⟨x, by simp [hx], e⟩
theorem dueL_mem : ∀ {l : List Deal} {n : Int} {m : Mail}, m ∈ dueL n l ↔ ∃ (i : Nat) (d : Deal), l[i]? = some d ∧ m ∈ dueD (n + i) d
  | [], n, m => by simp [dueL]
  | d :: l, n, m => by
    simp only [dueL, List.mem_append]
    rw [dueL_mem]
    constructor
    · rintro (h | ⟨i, d', h1, h2⟩)
      · exact ⟨0, d, by simp, by simpa using h⟩
      · exact ⟨i + 1, d', by simpa using h1, by rw [show n + ((i + 1 : Nat) : Int) = n + 1 + i by omega]; exact h2⟩
    · rintro ⟨i, d', h1, h2⟩
      cases i with
      | zero => simp at h1; subst h1; exact .inl (by simpa using h2)
      | succ i => exact .inr ⟨i, d', by simpa using h1, by rw [show n + 1 + (i : Int) = n + ((i + 1 : Nat) : Int) by omega]; exact h2⟩
theorem dueB_mem {b : BrokS} {m : Mail} : m ∈ dueB b ↔ ∃ (i : Nat) (d : Deal), b.l[i]? = some d ∧ m ∈ dueD i d := by
  unfold dueB; rw [dueL_mem]; simp
theorem dueD_mem {n : Nat} {d : Deal} {m : Mail} : m ∈ dueD n d → (d.state ≠ 0 ∧ ∃ s ∈ shopsL d.wants, s ∉ d.over ∧ m = ⟨3, n, s, 0, 0, decide (d.state = 1)⟩) ∨ (d.state = 0 ∧ ∃ w ∈ d.wants, m = ⟨1, n, shopOf w.ctr, w.ctr, w.dl, false⟩) := by
  intro h
  unfold dueD at h
  split at h
  · rename_i h0
    obtain ⟨s, hs, rfl⟩ := List.mem_map.1 h
    rw [List.mem_filter] at hs
    exact .inl ⟨h0, s, hs.1, by simpa using hs.2, rfl⟩
  · rename_i h0
    exact .inr ⟨by omega, dueW_mem h⟩
theorem wantsB_set {b : BrokS} {n : Nat} {d d' : Deal} {o : List Int} (hd : b.l[n]? = some d) (hw : d'.wants = d.wants) (m : Int) : wantsB ⟨b.l.set n d', o⟩ m = wantsB b m := by
  have hn := (List.getElem?_eq_some_iff.1 hd).1
  unfold wantsB
  dsimp only
  by_cases h0 : m < 0
  · rw [if_pos h0, if_pos h0]
  · rw [if_neg h0, if_neg h0]
    by_cases e : n = m.toNat
    · subst e; rw [List.getElem?_set_self hn, hd]; exact hw
    · rw [List.getElem?_set_ne e]
theorem quit_eff {b : BrokS} (hb : BInv b) (n : Int) : (quitB b n).1.order = b.order ∧ (∀ q, wantsB (quitB b n).1 q = wantsB b q) ∧ (quitB b n).1.l.length = b.l.length ∧ ∀ q, stateB (quitB b n).1 q = if q = n ∧ stateB b q = 0 then 2 else stateB b q := by
  unfold quitB
  split
  · rename_i h; exact ⟨rfl, fun _ => rfl, rfl, fun q => by dsimp only; rw [if_neg]; rintro ⟨rfl, h2⟩; omega⟩
  · split
    · rename_i h1 h2
      rcases hb.st n with ⟨e, _⟩ | ⟨n0, nl, _⟩
      · omega
      · obtain ⟨d, hd, e⟩ := stateB_in (b := b) n0 nl
        have e2 : decideB b n.toNat 2 = ⟨b.l.set n.toNat { d with state := 2 }, b.order⟩ := by
          unfold decideB; rw [hd]; dsimp only; rw [if_neg (by omega)]; simp
        rw [e2]
        refine ⟨rfl, fun q => wantsB_set (d' := { d with state := 2 }) hd rfl q, by simp, fun q => ?_⟩
        rw [stateB_set (List.getElem?_eq_some_iff.1 hd).1]
        have hn : ((n.toNat : Nat) : Int) = n := by omega
        rw [hn]
        by_cases hq : q = n
        · subst hq; rw [if_pos rfl, if_pos ⟨rfl, h2⟩]
        · rw [if_neg hq, if_neg (fun h => hq h.1)]
    · rename_i h; exact ⟨rfl, fun _ => rfl, rfl, fun q => by dsimp only; rw [if_neg]; rintro ⟨rfl, h2⟩; omega⟩

/-! ### A broker's steps -/
structure BkStep where
  d : Int
  n : Int
  wv : Value
  wants : List Want
  m : Mail
  yes : Bool
def dueAt (s : BrokS) (n : Int) : Option Mail := (dueB s)[rnd n (dueB s).length]?
def ansOf (m : Mail) (y : Bool) : Mail := if m.kind = 1 then { m with kind := 2, yes := y } else { m with kind := 4 }
def stepBk (s : BrokS) (x : BkStep) : BrokS :=
  if x.d = 0 then (beginB s x.wants).1 else if x.d = 1 then (quitB s x.n).1 else if x.d = 2 then hearB s x.m else if x.d = 3 then crashB s
  else if x.d = 4 then (match dueAt s x.n with | none => s | some m => hearB s (ansOf m x.yes)) else s
theorem BInv.stp {s : BrokS} (h : BInv s) (x : BkStep) : BInv (stepBk s x) := by
  unfold stepBk
  split
  · exact h.begin _
  · split
    · exact h.quit _
    · split
      · exact h.hear _
      · split
        · exact h.crash
        · split
          · split
            · exact h
            · exact h.hear _
          · exact h
/-- What a step leaves as it is. -/
structure StaysR (s s' : BrokS) : Prop where
  ord : s'.order = s.order ∨ ∃ q, s'.order = s.order ++ [q] ∧ q ∉ s.order
  len : s.l.length ≤ s'.l.length
  st : ∀ n : Int, 0 ≤ n → n < s.l.length → stateB s n ≠ 0 → stateB s' n = stateB s n
theorem StaysR.refl (s : BrokS) : StaysR s s := ⟨.inl rfl, Nat.le_refl _, fun _ _ _ _ => rfl⟩
theorem begin_st {b : BrokS} {l : List Want} : (beginB b l).1.order = b.order ∧ b.l.length ≤ (beginB b l).1.l.length ∧ ∀ n : Int, 0 ≤ n → n < b.l.length → stateB (beginB b l).1 n = stateB b n := by
  unfold beginB
  split
  · exact ⟨rfl, Nat.le_refl _, fun _ _ _ => rfl⟩
  · split
    · exact ⟨rfl, Nat.le_refl _, fun _ _ _ => rfl⟩
    · refine ⟨rfl, by simp, fun n h0 h1 => ?_⟩
      unfold stateB; dsimp only
      rw [if_neg (by omega), if_neg (by omega), List.getElem?_append_left (by omega)]
theorem hear_stays {s : BrokS} (h : BInv s) (m : Mail) : StaysR s (hearB s m) := by
  refine ⟨?_, by rw [hear_len]; exact Nat.le_refl _, fun n h0 h1 h2 => ?_⟩
  · rcases hear_ord s m with ⟨e, _⟩ | ⟨a, b, e, _⟩
    · exact .inl e
    · exact .inr ⟨_, e, fun hm => by have := (h.ord _).1 hm; omega⟩
  · obtain ⟨d, hd, e⟩ := stateB_in (b := s) h0 h1
    obtain ⟨d', e1, e2, e3⟩ := hear_l h m hd
    have hn : ((n.toNat : Nat) : Int) = n := by omega
    have e4 : stateB (hearB s m) n = d'.state := by rw [← hn, stateB_at e1]
    rw [e4, e]
    by_cases hm : n = m.deal
    · exact (e3 (by omega)).st (by omega)
    · rw [e2 (by omega)]
theorem BInv.stays {s : BrokS} (h : BInv s) (x : BkStep) : StaysR s (stepBk s x) := by
  unfold stepBk
  split
  · obtain ⟨e1, e2, e3⟩ := begin_st (b := s) (l := x.wants)
    exact ⟨.inl e1, e2, fun n h0 h1 _ => e3 n h0 h1⟩
  · split
    · obtain ⟨e1, _, e2, e3⟩ := quit_eff h x.n
      exact ⟨.inl e1, by omega, fun n h0 h1 h2 => by rw [e3, if_neg (fun h => h2 h.2)]⟩
    · split
      · exact hear_stays h _
      · split
        · exact ⟨.inl rfl, by simp [crashB], fun n h0 h1 h2 => by rw [stateB_crash, if_neg h2]⟩
        · split
          · split
            · exact .refl s
            · exact hear_stays h _
          · exact .refl s

/-! ### All said yes -/
theorem set_yes {l : List Bool} {i : Nat} (hi : i < l.length) : ((l.set i true).contains false = false) ↔ ∀ j : Nat, j < l.length → j = i ∨ l[j]? = some true := by
  rw [← Bool.not_eq_true, List.contains_iff_mem]
  constructor
  · intro h j hj
    by_cases e : j = i
    · exact .inl e
    · refine .inr ?_
      rw [List.getElem?_eq_getElem hj]
      cases hb : l[j] with
      | true => rfl
      | false =>
        exfalso; refine h (List.mem_of_getElem? (i := j) ?_)
        rw [List.getElem?_set_ne (by omega), List.getElem?_eq_getElem hj, hb]
  · intro h hm
    obtain ⟨j, hj, e⟩ := List.mem_iff_getElem.1 hm
    have hj' : j < l.length := by simpa using hj
    have e' : (l.set i true)[j]? = some false := by rw [List.getElem?_eq_getElem hj, e]
    rcases h j hj' with rfl | h
    · rw [List.getElem?_set_self hi] at e'; cases e'
    · by_cases hji : j = i
      · subst hji; rw [List.getElem?_set_self hi] at e'; cases e'
      · rw [List.getElem?_set_ne (by omega), h] at e'; cases e'
structure YInv (ws : List Want) (s : BrokS) (st : Int) (hs : List Int) : Prop where
  l : ∃ yes, s.l = [⟨ws, st, yes, []⟩] ∧ yes.length = ws.length ∧ (st = 0 → ∀ i : Nat, i < ws.length → ((i : Int) ∈ hs ↔ yes[i]? = some true))
  ord : s.order = if st = 1 then [0] else []
  st : st = 0 ∨ st = 1 ∨ st = 2
  nd : hs.Nodup
  rng : ∀ x ∈ hs, 0 ≤ x ∧ x < ws.length
theorem YInv.begun {ws : List Want} (hc : (checkL ws).code = 0) : YInv ws (beginB ⟨[], []⟩ ws).1 0 [] ∧ (beginB ⟨[], []⟩ ws).2 = (0, 0) := by
  unfold beginB
  rw [if_neg (by omega), if_neg (by simp)]
  refine ⟨⟨⟨noYes ws, rfl, noYes_len ws, fun _ i hi => ?_⟩, rfl, .inl rfl, by simp, by simp⟩, rfl⟩
  unfold noYes
  rw [List.getElem?_replicate, if_pos hi]
  simp
def yesHs (hs : List Int) (k : Nat) : List Int := if (k : Int) ∈ hs then hs else hs ++ [(k : Int)]
theorem full_iff {n : Nat} {hs : List Int} (nd : hs.Nodup) (rng : ∀ x ∈ hs, 0 ≤ x ∧ x < (n : Int)) : hs.length = n ↔ ∀ i : Nat, i < n → (i : Int) ∈ hs := by
  have hr : ((List.range n).map fun i : Nat => (i : Int)).length = n := by simp
  have hle : hs.length ≤ n := by
    rw [← hr]
    refine nodup_le nd fun x hx => ?_
    have := rng x hx
    exact List.mem_map.2 ⟨x.toNat, by simp; omega, by omega⟩
  constructor
  · intro h i hi
    refine Classical.byContradiction fun hn => ?_
    have : ((i : Int) :: hs).length ≤ n := by
      rw [← hr]
      refine nodup_le (List.nodup_cons.2 ⟨hn, nd⟩) fun x hx => ?_
      rcases List.mem_cons.1 hx with rfl | hx
      · exact List.mem_map.2 ⟨i, by simpa using hi, rfl⟩
      · have := rng x hx
        exact List.mem_map.2 ⟨x.toNat, by simp; omega, by omega⟩
    simp at this; omega
  · intro h
    have : ((List.range n).map fun i : Nat => (i : Int)).length ≤ hs.length := nodup_le (by
      rw [List.nodup_iff_pairwise_ne, List.pairwise_map]
      exact List.nodup_range.imp fun h => by omega) fun x hx => by
      obtain ⟨i, hi, rfl⟩ := List.mem_map.1 hx
      exact h i (by simpa using hi)
    omega
theorem atW_self {ws : List Want} (hnd : (ws.map (·.ctr)).Nodup) {k : Nat} {w : Want} (hk : ws[k]? = some w) : atW ws w.ctr w.dl = some k := by
  cases h : atW ws w.ctr w.dl with
  | none => exact absurd (List.mem_of_getElem? hk) (atW_none h)
  | some i =>
    have := (atW_some h).1
    rw [nodup_idx hnd this hk]
theorem YInv.say {ws : List Want} {s : BrokS} {st : Int} {hs : List Int} (h : YInv ws s st hs) (hnd : (ws.map (·.ctr)).Nodup) {k : Nat} {w : Want} (hk : ws[k]? = some w) (y : Bool) :
    YInv ws (hearB s ⟨2, 0, shopOf w.ctr, w.ctr, w.dl, y⟩) (if st = 0 then (if y = false then 2 else if (yesHs hs k).length = ws.length then 1 else 0) else st) (if st = 0 then (if y = false then hs else yesHs hs k) else hs) := by
  obtain ⟨⟨yes, hl, hy, hi⟩, ho, hst, nd, rng⟩ := h
  obtain ⟨sl, so⟩ := s
  dsimp only at hl ho
  subst hl
  have hkl := (List.getElem?_eq_some_iff.1 hk).1
  unfold hearB
  dsimp only
  rw [if_neg (by omega)]
  simp only [Int.toNat_zero, List.getElem?_cons_zero, atW_self hnd hk]
  rw [if_pos trivial]
  by_cases h0 : st = 0
  · subst h0
    rw [if_neg (by simp), if_pos rfl, if_pos rfl]
    simp only [ho, (by decide : ¬ (0 : Int) = 1), if_false]
    cases y with
    | false =>
      simp only [if_true]
      exact ⟨⟨yes, by simp [decideB], hy, fun h => by cases h⟩, by simp [decideB], .inr (.inr rfl), nd, rng⟩
    | true =>
      simp only [Bool.true_eq_false, if_false]
      have hmem : ∀ x, x ∈ yesHs hs k ↔ x ∈ hs ∨ x = (k : Int) := fun x => by
        unfold yesHs; split
        · rename_i h; constructor
          · exact .inl
          · rintro (h' | rfl)
            · exact h'
            · exact h
        · simp
      have nd' : (yesHs hs k).Nodup := by
        unfold yesHs; split
        · exact nd
        · rename_i h
          rw [List.nodup_append]
          exact ⟨nd, by simp, fun a ha b hb => by simp at hb; subst hb; rintro rfl; exact h ha⟩
      have rng' : ∀ x ∈ yesHs hs k, 0 ≤ x ∧ x < (ws.length : Int) := fun x hx => by
        rcases (hmem x).1 hx with h | rfl
        · exact rng x h
        · omega
      have hky : k < yes.length := by omega
      have hfull : ((yes.set k true).contains false = false) ↔ (yesHs hs k).length = ws.length := by
        rw [set_yes hky, full_iff nd' rng', hy]
        constructor
        · intro h i hi'
          rw [hmem]
          rcases h i hi' with rfl | h
          · exact .inr rfl
          · exact .inl ((hi rfl i hi').2 h)
        · intro h i hi'
          rcases (hmem _).1 (h i hi') with h | h
          · exact .inr ((hi rfl i hi').1 h)
          · exact .inl (by omega)
      have hnew : ∀ i : Nat, i < ws.length → ((i : Int) ∈ yesHs hs k ↔ (yes.set k true)[i]? = some true) := fun i hi' => by
        rw [hmem]
        by_cases e : i = k
        · subst e; rw [List.getElem?_set_self hky]; simp
        · rw [List.getElem?_set_ne (by omega), hi rfl i hi']
          constructor
          · rintro (h | h)
            · exact h
            · omega
          · exact .inl
      by_cases hc : (yesHs hs k).length = ws.length
      · rw [if_neg (by rw [hfull.2 hc]; simp), if_pos hc]
        exact ⟨⟨yes.set k true, by simp [decideB, setD], by simpa using hy, fun h => by cases h⟩, by simp [decideB, setD, ho], .inr (.inl rfl), nd', rng'⟩
      · rw [if_pos (by cases hb : (yes.set k true).contains false with | true => rfl | false => exact absurd (hfull.1 hb) hc), if_neg hc]
        exact ⟨⟨yes.set k true, by simp [setD], by simpa using hy, fun _ => hnew⟩, by simp [setD, ho], .inl rfl, nd', rng'⟩
  · rw [if_pos (.inr h0), if_neg h0, if_neg h0]
    exact ⟨⟨yes, rfl, hy, hi⟩, ho, hst, nd, rng⟩
theorem YInv.state {ws : List Want} {s : BrokS} {st : Int} {hs : List Int} (h : YInv ws s st hs) : stateB s 0 = st ∧ (s.order.length = 1 ↔ st = 1) ∧ s.order.length ≤ 1 ∧ s.l.length = 1 := by
  obtain ⟨⟨yes, hl, _⟩, ho, _⟩ := h
  refine ⟨by unfold stateB; rw [hl]; simp, ?_, ?_, by rw [hl]; rfl⟩
  · rw [ho]; split <;> simp [*]
  · rw [ho]; split <;> simp

/-! ### What is due -/
theorem dueW_nodup {n : Int} : ∀ {l : List Want} {k : List Bool}, (l.map (·.ctr)).Nodup → (dueW n l k).Nodup
  | [], _, _ => by simp [dueW]
  | _ :: _, [], _ => by simp [dueW]
  | w :: l, y :: k, h => by
    rw [List.map_cons, List.nodup_cons] at h
    simp only [dueW]
    split
    · exact dueW_nodup h.2
    · refine List.nodup_cons.2 ⟨fun hm => ?_, dueW_nodup h.2⟩
      obtain ⟨x, hx, e⟩ := dueW_mem hm
      injection e with _ _ _ e4
      exact h.1 (List.mem_map.2 ⟨x, hx, e4.symm⟩)
theorem shopsL_nodup (l : List Want) : (shopsL l).Nodup := List.Pairwise.filter _ (by decide)
theorem dueD_nodup {n : Int} {d : Deal} (h : DOk d) : (dueD n d).Nodup := by
  unfold dueD
  split
  · rw [List.nodup_iff_pairwise_ne, List.pairwise_map]
    refine (List.Pairwise.filter _ (shopsL_nodup d.wants)).imp fun hne e => hne ?_
    injection e
  · exact dueW_nodup ((checkL_ok _).1 h.w).2.2.2
theorem dueD_deal {n : Int} {d : Deal} {m : Mail} (h : m ∈ dueD n d) : m.deal = n := by
  unfold dueD at h
  split at h
  · obtain ⟨s, _, rfl⟩ := List.mem_map.1 h; rfl
  · obtain ⟨w, _, rfl⟩ := dueW_mem h; rfl
theorem dueL_nodup : ∀ {l : List Deal} {n : Int}, (∀ d ∈ l, DOk d) → (dueL n l).Nodup
  | [], _, _ => by simp [dueL]
  | d :: l, n, h => by
    simp only [dueL]
    rw [List.nodup_append]
    refine ⟨dueD_nodup (h d (by simp)), dueL_nodup fun x hx => h x (by simp [hx]), fun a ha b hb e => ?_⟩
    subst e
    have h1 := dueD_deal ha
    obtain ⟨i, d', _, h2⟩ := dueL_mem.1 hb
    have := dueD_deal h2
    omega
theorem BInv.due_nodup {b : BrokS} (h : BInv b) : (dueB b).Nodup := dueL_nodup h.d
/-- What is due of a deal is of its state. -/
theorem BInv.due_is {b : BrokS} (h : BInv b) {m : Mail} (hm : m ∈ dueB b) :
    0 ≤ m.deal ∧ m.deal < b.l.length ∧ ((stateB b m.deal = 0 ∧ m.kind = 1 ∧ (⟨m.ctr, m.dl⟩ : Want) ∈ wantsB b m.deal ∧ m.shop = shopOf m.ctr ∧ m.yes = false) ∨
      ((stateB b m.deal = 1 ∨ stateB b m.deal = 2) ∧ m.kind = 3 ∧ m.yes = decide (stateB b m.deal = 1) ∧ m.shop ∈ shopsL (wantsB b m.deal))) := by
  obtain ⟨i, d, hd, hmd⟩ := dueB_mem.1 hm
  have hil := (List.getElem?_eq_some_iff.1 hd).1
  have hk := h.d d (List.mem_of_getElem? hd)
  have hst := hk.st
  rcases dueD_mem hmd with ⟨h0, s, hs, _, rfl⟩ | ⟨h0, w, hw, rfl⟩
  · refine ⟨by dsimp only; omega, by dsimp only; omega, .inr ?_⟩
    dsimp only
    rw [stateB_at hd, wantsB_at hd]
    exact ⟨by omega, rfl, rfl, hs⟩
  · refine ⟨by dsimp only; omega, by dsimp only; omega, .inl ?_⟩
    dsimp only
    rw [stateB_at hd, wantsB_at hd]
    exact ⟨h0, rfl, hw, rfl, rfl⟩
def shopsN (l : List Deal) : Nat := (l.map fun d => (shopsL d.wants).length).sum
theorem crashD_due {n : Int} {d : Deal} (hd : d.state = 0 ∨ d.state = 1 ∨ d.state = 2) : (dueD n (crashD d)).length = (shopsL d.wants).length := by
  unfold dueD
  have h0 : (crashD d).state ≠ 0 := by unfold crashD; dsimp only; split <;> omega
  rw [if_pos h0, List.length_map]
  show ((shopsL d.wants).filter fun s => !([] : List Int).contains s).length = _
  rw [List.filter_eq_self.2 (by simp)]
theorem crash_due_len : ∀ {l : List Deal} {n : Int}, (∀ d ∈ l, DOk d) → (dueL n (l.map crashD)).length = shopsN l
  | [], _, _ => rfl
  | d :: l, n, h => by
    simp only [List.map_cons, dueL, List.length_append, shopsN, List.sum_cons]
    rw [crashD_due (h d (by simp)).st, crash_due_len fun x hx => h x (by simp [hx])]
    rfl
theorem BInv.crash_due {b : BrokS} (h : BInv b) : (dueB (crashB b)).length = shopsN b.l := crash_due_len h.d
theorem shopsN_take {l : List Deal} {i : Nat} {d : Deal} (h : l[i]? = some d) : shopsN (l.take (i + 1)) = shopsN (l.take i) + (shopsL d.wants).length := by
  unfold shopsN
  rw [List.take_add_one, h]; simp
theorem shopsN_le : ∀ (l : List Deal), shopsN l ≤ 3 * l.length
  | [] => by simp [shopsN]
  | d :: l => by
    have := shopsN_le l
    have h1 : (shopsL d.wants).length ≤ 3 := List.length_filter_le _ _
    unfold shopsN at this ⊢
    simp only [List.map_cons, List.sum_cons, List.length_cons]; omega
theorem crash_wantsL (l : List Deal) : (l.map crashD).map (·.wants) = l.map (·.wants) := by rw [List.map_map]; rfl
theorem shopsN_crash (l : List Deal) : shopsN (l.map crashD) = shopsN l := by unfold shopsN; rw [List.map_map]; rfl

/-! ### What is heard, case by case -/
theorem hearB_at {s : BrokS} {i : Nat} {d : Deal} {m : Mail} (hd : s.l[i]? = some d) (hm : m.deal = (i : Int)) : hearB s m =
    if m.kind = 2 then
      match atW d.wants m.ctr m.dl with
      | none => s
      | some j => if shopOf m.ctr ≠ m.shop ∨ d.state ≠ 0 then s
        else if m.yes = false then decideB s i 2
        else if (d.yes.set j true).contains false then ⟨s.l.set i { d with yes := d.yes.set j true }, s.order⟩
        else decideB ⟨s.l.set i { d with yes := d.yes.set j true }, s.order⟩ i 1
    else if m.kind = 4 then
      if d.state ≠ 0 ∧ (shopsL d.wants).contains m.shop = true ∧ d.over.contains m.shop = false then ⟨s.l.set i { d with over := d.over ++ [m.shop] }, s.order⟩ else s
    else s := by
  unfold hearB
  rw [if_neg (by omega)]
  have e : m.deal.toNat = i := by omega
  rw [e, hd]
  rfl
theorem hearB_out {s : BrokS} {m : Mail} (h : m.deal < 0 ∨ (s.l.length : Int) ≤ m.deal) : hearB s m = s := by
  unfold hearB
  split
  · rfl
  · rw [List.getElem?_eq_none (by omega)]
theorem idxW (l : List Want) (c d : Int) : idxI l (fun x => decide (x = ⟨c, d⟩)) = match atW l c d with | some i => (i : Int) | none => -1 := rfl
theorem sayCases (l : List Want) (c d s : Int) : (atW l c d = none ∧ Value.int .i64 (idxI l fun x => decide (x = ⟨c, d⟩)) = .int .i64 (-1)) ∨ (∃ j : Nat, atW l c d = some j ∧ Value.int .i64 (idxI l fun x => decide (x = ⟨c, d⟩)) = .int .i64 (j : Int) ∧ j < l.length ∧ shopOf c ≠ s) ∨
    (∃ j : Nat, atW l c d = some j ∧ Value.int .i64 (idxI l fun x => decide (x = ⟨c, d⟩)) = .int .i64 (j : Int) ∧ j < l.length ∧ shopOf c = s) := by
  rw [idxW]
  cases h : atW l c d with
  | none => exact .inl ⟨rfl, rfl⟩
  | some j =>
    have hj := (List.getElem?_eq_some_iff.1 (atW_some h).1).1
    by_cases hs : shopOf c = s
    · exact .inr (.inr ⟨j, rfl, rfl, hj, hs⟩)
    · exact .inr (.inl ⟨j, rfl, rfl, hj, hs⟩)
theorem overCases (d : Deal) (s : Int) : (d.state = 0) ∨ (d.state ≠ 0 ∧ (shopsL d.wants).contains s = false) ∨ (d.state ≠ 0 ∧ (shopsL d.wants).contains s = true) := by
  by_cases h : d.state = 0
  · exact .inl h
  · cases h2 : (shopsL d.wants).contains s
    · exact .inr (.inl ⟨h, rfl⟩)
    · exact .inr (.inr ⟨h, rfl⟩)
theorem DOk.le {d : Deal} (h : DOk d) : d.wants.length ≤ 4 ∧ d.yes.length ≤ 4 ∧ d.over.length ≤ 3 := by
  have h1 := ((checkL_ok _).1 h.w).2.1
  have h2 := nodup_le h.ov.1 h.ov.2
  have h3 : (shopsL d.wants).length ≤ 3 := List.length_filter_le _ _
  exact ⟨by omega, by have := h.y; omega, by omega⟩
theorem BInv.ord_le {b : BrokS} (h : BInv b) : b.order.length ≤ 8 := by
  have h1 : ((List.range b.l.length).map fun i : Nat => (i : Int)).length = b.l.length := by simp
  have := h.len
  have h2 := nodup_le (L := (List.range b.l.length).map fun i : Nat => (i : Int)) h.nd fun x hx => by
    have h3 := (h.ord x).1 hx
    rcases h.st x with ⟨e, _⟩ | ⟨h0, hl, _⟩
    · omega
    · exact List.mem_map.2 ⟨x.toNat, by simp; omega, by omega⟩
  omega
theorem dueW_len {n : Int} : ∀ (l : List Want) (k : List Bool), (dueW n l k).length ≤ l.length
  | [], _ => by simp [dueW]
  | _ :: _, [] => by simp [dueW]
  | w :: l, y :: k => by
    have := dueW_len (n := n) l k
    simp only [dueW, List.length_cons]
    split <;> simp <;> omega
theorem dueD_len {n : Int} {d : Deal} (h : DOk d) : (dueD n d).length ≤ 4 := by
  unfold dueD
  split
  · rw [List.length_map]
    exact Nat.le_trans (List.length_filter_le _ _) (Nat.le_trans (List.length_filter_le _ _) (by decide))
  · exact Nat.le_trans (dueW_len _ _) h.le.1
theorem dueL_le : ∀ {l : List Deal} {n : Int}, (∀ d ∈ l, DOk d) → (dueL n l).length ≤ 4 * l.length
  | [], _, _ => by simp [dueL]
  | d :: l, n, h => by
    have h1 := dueD_len (n := n) (h d (by simp))
    have h2 := dueL_le (l := l) (n := n + 1) fun x hx => h x (by simp [hx])
    simp only [dueL, List.length_append, List.length_cons]; omega
theorem dueL_take {l : List Deal} {i : Nat} {d : Deal} : ∀ {n : Int}, l[i]? = some d → dueL n (l.take (i + 1)) = dueL n (l.take i) ++ dueD (n + i) d := by
  induction l generalizing i with
  | nil => intro n h; simp at h
  | cons x l ih =>
    intro n h
    cases i with
    | zero => simp at h; subst h; simp [dueL]
    | succ i =>
      simp only [List.take_succ_cons, dueL, List.append_assoc]
      rw [ih (n := n + 1) (by simpa using h), show n + 1 + (i : Int) = n + ((i + 1 : Nat) : Int) by omega]
theorem dueW_take {l : List Want} {k : List Bool} {j : Nat} {w : Want} {y : Bool} {n : Int} (h1 : l[j]? = some w) (h2 : k[j]? = some y) : dueW n (l.take (j + 1)) (k.take (j + 1)) = dueW n (l.take j) (k.take j) ++ (if y then [] else [⟨1, n, shopOf w.ctr, w.ctr, w.dl, false⟩]) := by
  induction l generalizing j k with
  | nil => simp at h1
  | cons x l ih =>
    cases k with
    | nil => simp at h2
    | cons z k =>
      cases j with
      | zero => simp at h1 h2; subst h1; subst h2; cases z <;> simp [dueW]
      | succ j =>
        simp only [List.take_succ_cons, dueW]
        rw [ih (by simpa using h1) (by simpa using h2)]
        split <;> simp
def endM (n : Int) (d : Deal) (s : Int) : Mail := ⟨3, n, s, 0, 0, decide (d.state = 1)⟩
def dueS (n : Int) (d : Deal) (sh : List Int) : List Mail := (sh.filter fun s => !d.over.contains s).map (endM n d)
theorem dueS_take {n : Int} {d : Deal} {sh : List Int} {j : Nat} {s : Int} (h : sh[j]? = some s) : dueS n d (sh.take (j + 1)) = dueS n d (sh.take j) ++ (if d.over.contains s then [] else [endM n d s]) := by
  unfold dueS
  rw [List.take_add_one, h, List.filter_append, List.map_append]
  by_cases hc : s ∈ d.over <;> simp [hc]
theorem dueD_end {n : Int} {d : Deal} (h : d.state ≠ 0) : dueD n d = dueS n d (shopsL d.wants) := by unfold dueD; rw [if_pos h]; rfl
theorem dueD_ask {n : Int} {d : Deal} (h : d.state = 0) : dueD n d = dueW n d.wants d.yes := by unfold dueD; rw [if_neg (by omega)]
theorem dueS_len {n : Int} {d : Deal} (sh : List Int) : (dueS n d sh).length ≤ sh.length := by unfold dueS; rw [List.length_map]; exact List.length_filter_le _ _
/-- A crash, deal by deal. -/
def crashT (s : BrokS) (i : Nat) : BrokS := ⟨(s.l.take i).map crashD ++ s.l.drop i, s.order⟩
theorem crashT_0 (s : BrokS) : crashT s 0 = s := by simp [crashT]
theorem crashT_all (s : BrokS) {i : Nat} (h : s.l.length ≤ i) : crashT s i = crashB s := by
  unfold crashT crashB; rw [List.take_of_length_le h, List.drop_eq_nil_of_le h]; simp
theorem crashT_len (s : BrokS) (i : Nat) : (crashT s i).l.length = s.l.length := by simp [crashT]; omega
theorem crashT_at {s : BrokS} {i : Nat} {d : Deal} (h : s.l[i]? = some d) : (crashT s i).l[i]? = some d := by
  have hi := (List.getElem?_eq_some_iff.1 h).1
  unfold crashT
  rw [List.getElem?_append_right (by simp; omega), List.length_map, List.length_take, Nat.min_eq_left (by omega), Nat.sub_self, List.getElem?_drop]
  simpa using h
theorem crashT_next {s : BrokS} {i : Nat} {d : Deal} (h : s.l[i]? = some d) : ⟨(decideB (crashT s i) i 2).l.set i ⟨d.wants, if d.state = 0 then 2 else d.state, noYes d.wants, []⟩, (decideB (crashT s i) i 2).order⟩ = crashT s (i + 1) ∧ ∃ d', (decideB (crashT s i) i 2).l[i]? = some d' ∧ d'.wants = d.wants ∧ d'.state = (if d.state = 0 then 2 else d.state) ∧ d'.yes = d.yes ∧ d'.over = d.over := by
  have hi := (List.getElem?_eq_some_iff.1 h).1
  have hat := crashT_at h
  have hset : ∀ x : Deal, (crashT s i).l.set i x = (s.l.take i).map crashD ++ x :: s.l.drop (i + 1) := fun x => by
    unfold crashT
    dsimp only
    rw [List.set_append_right _ _ (by simp; omega), List.length_map, List.length_take, Nat.min_eq_left (by omega), Nat.sub_self, drop_at h]
    rfl
  have hn : (crashT s (i + 1)).l = (s.l.take i).map crashD ++ crashD d :: s.l.drop (i + 1) := by
    unfold crashT
    dsimp only
    rw [List.take_add_one, h]; simp
  unfold decideB
  rw [hat]
  dsimp only
  by_cases h0 : d.state = 0
  · rw [if_neg (by omega)]
    dsimp only
    refine ⟨?_, { d with state := 2 }, by rw [List.getElem?_set_self (by rw [crashT_len]; exact hi)], rfl, by rw [if_pos h0], rfl, rfl⟩
    rw [List.set_set, hset]
    show (⟨_, _⟩ : BrokS) = crashT s (i + 1)
    have : crashT s (i + 1) = ⟨(crashT s (i + 1)).l, s.order⟩ := rfl
    rw [this, hn]
    simp [crashD, crashT]
  · rw [if_pos h0]
    refine ⟨?_, d, hat, rfl, by rw [if_neg h0], rfl, rfl⟩
    rw [hset]
    have : crashT s (i + 1) = ⟨(crashT s (i + 1)).l, s.order⟩ := rfl
    rw [this, hn]
    simp [crashD, crashT]

end Go.Proofs.YtmakdilmibjpbabGreatDoor
