/- A broker, in plain Lean: deals, what was said of them, and what is due. No program in sight. -/
import Derived.Test.YtmakdilmibjpbabGreatDoorKeeps
import Derived.Test.YtmakdilmibjpbabGreatDoorMails
namespace Go.Proofs.YtmakdilmibjpbabGreatDoor
open Go Go.RowKit
set_option linter.unusedVariables false
set_option linter.unusedSimpArgs false
structure Deal where
  wants : List Want
  state : Int
  yes : List Bool
  over : List Int
structure BrokS where
  l : List Deal
  order : List Int
def stateB (b : BrokS) (n : Int) : Int := if n < 0 then -1 else match b.l[n.toNat]? with | none => -1 | some d => d.state
def wantsB (b : BrokS) (n : Int) : List Want := if n < 0 then [] else match b.l[n.toNat]? with | none => [] | some d => d.wants
def noYes (l : List Want) : List Bool := List.replicate l.length false
def beginB (b : BrokS) (l : List Want) : BrokS × Int × Int :=
  if (checkL l).code ≠ 0 then (b, 0, (checkL l).code) else if 8 ≤ b.l.length then (b, 0, 6)
  else ({ b with l := b.l ++ [⟨l, 0, noYes l, []⟩] }, b.l.length, 0)
def decideB (b : BrokS) (n : Nat) (st : Int) : BrokS := match b.l[n]? with
  | none => b
  | some d => if d.state ≠ 0 then b else ⟨b.l.set n { d with state := st }, if st = 1 then b.order ++ [(n : Int)] else b.order⟩
def quitB (b : BrokS) (n : Int) : BrokS × Int := if stateB b n = -1 then (b, 7) else if stateB b n = 0 then (decideB b n.toNat 2, 0) else (b, 8)
/-- The place of a want. -/
def atW (l : List Want) (c d : Int) : Option Nat := l.findIdx? fun w => decide (w = ⟨c, d⟩)
def setD (b : BrokS) (n : Nat) (d : Deal) : BrokS := { b with l := b.l.set n d }
def hearB (b : BrokS) (m : Mail) : BrokS :=
  if m.deal < 0 then b else match b.l[m.deal.toNat]? with
  | none => b
  | some d =>
    if m.kind = 2 then
      match atW d.wants m.ctr m.dl with
      | none => b
      | some i => if shopOf m.ctr ≠ m.shop ∨ d.state ≠ 0 then b
        else if m.yes = false then decideB b m.deal.toNat 2
        else if (d.yes.set i true).contains false then setD b m.deal.toNat { d with yes := d.yes.set i true }
        else decideB (setD b m.deal.toNat { d with yes := d.yes.set i true }) m.deal.toNat 1
    else if m.kind = 4 then
      if d.state ≠ 0 ∧ (shopsL d.wants).contains m.shop = true ∧ d.over.contains m.shop = false then setD b m.deal.toNat { d with over := d.over ++ [m.shop] } else b
    else b
def dueW (n : Int) : List Want → List Bool → List Mail
  | w :: l, y :: k => if y then dueW n l k else ⟨1, n, shopOf w.ctr, w.ctr, w.dl, false⟩ :: dueW n l k
  | _, _ => []
def dueD (n : Int) (d : Deal) : List Mail :=
  if d.state ≠ 0 then ((shopsL d.wants).filter fun s => !d.over.contains s).map fun s => ⟨3, n, s, 0, 0, decide (d.state = 1)⟩ else dueW n d.wants d.yes
def dueL : Int → List Deal → List Mail
  | _, [] => []
  | n, d :: l => dueD n d ++ dueL (n + 1) l
def dueB (b : BrokS) : List Mail := dueL 0 b.l
def crashD (d : Deal) : Deal := ⟨d.wants, if d.state = 0 then 2 else d.state, noYes d.wants, []⟩
def crashB (b : BrokS) : BrokS := { b with l := b.l.map crashD }

structure DOk (d : Deal) : Prop where
  w : (checkL d.wants).code = 0
  st : d.state = 0 ∨ d.state = 1 ∨ d.state = 2
  y : d.yes.length = d.wants.length
  op : d.state = 0 → d.over = [] ∧ d.yes.contains false = true
  ov : d.over.Nodup ∧ ∀ s ∈ d.over, s ∈ shopsL d.wants
structure BInv (b : BrokS) : Prop where
  len : b.l.length ≤ 8
  d : ∀ d ∈ b.l, DOk d
  nd : b.order.Nodup
  ord : ∀ n : Int, n ∈ b.order ↔ stateB b n = 1

theorem stateB_at {b : BrokS} {n : Nat} {d : Deal} (h : b.l[n]? = some d) : stateB b (n : Int) = d.state := by
  unfold stateB; rw [if_neg (by omega)]; simp [h]
theorem stateB_in {b : BrokS} {n : Int} (h : 0 ≤ n) (h2 : n < b.l.length) : ∃ d, b.l[n.toNat]? = some d ∧ stateB b n = d.state := by
  refine ⟨b.l[n.toNat], List.getElem?_eq_getElem (by omega), ?_⟩
  unfold stateB; rw [if_neg (by omega), List.getElem?_eq_getElem (by omega)]
theorem stateB_out {b : BrokS} {n : Int} (h : n < 0 ∨ (b.l.length : Int) ≤ n) : stateB b n = -1 := by
  unfold stateB
  split
  · rfl
  · rw [List.getElem?_eq_none (by omega)]
theorem BInv.st {b : BrokS} (h : BInv b) (n : Int) : (stateB b n = -1 ∧ (n < 0 ∨ (b.l.length : Int) ≤ n)) ∨ (0 ≤ n ∧ n < b.l.length ∧ (stateB b n = 0 ∨ stateB b n = 1 ∨ stateB b n = 2)) := by
  by_cases h1 : n < 0 ∨ (b.l.length : Int) ≤ n
  · exact .inl ⟨stateB_out h1, h1⟩
  · obtain ⟨d, hd, e⟩ := stateB_in (b := b) (n := n) (by omega) (by omega)
    rw [e]
    exact .inr ⟨by omega, by omega, (h.d d (List.mem_of_getElem? hd)).st⟩
theorem stateB_set {b : BrokS} {n : Nat} {d : Deal} {o : List Int} (h : n < b.l.length) (m : Int) : stateB ⟨b.l.set n d, o⟩ m = if m = n then d.state else stateB b m := by
  unfold stateB
  dsimp only
  by_cases h0 : m < 0
  · rw [if_pos h0, if_neg (by omega), if_pos h0]
  · rw [if_neg h0, if_neg h0, List.getElem?_set]
    by_cases e : m = n
    · subst e; simp [h]
    · rw [if_neg e, if_neg (by omega)]
theorem BInv.put {b : BrokS} (h : BInv b) {n : Nat} {d d' : Deal} (hd : b.l[n]? = some d) (hs : d'.state = d.state) (hk : DOk d') : BInv (setD b n d') := by
  have hn := (List.getElem?_eq_some_iff.1 hd).1
  refine ⟨by simp [setD]; exact h.len, fun x hx => ?_, h.nd, fun m => ?_⟩
  · rcases List.mem_or_eq_of_mem_set hx with hx | rfl
    · exact h.d x hx
    · exact hk
  · show m ∈ b.order ↔ _
    rw [h.ord]
    show _ ↔ stateB ⟨b.l.set n d', b.order⟩ m = 1
    rw [stateB_set hn]
    split
    · rename_i e; rw [e, stateB_at hd, hs]
    · rfl
theorem BInv.dec {b : BrokS} (h : BInv b) {n : Nat} {d : Deal} (hd : b.l[n]? = some d) (st : Int) (hst : st = 1 ∨ st = 2) (hk : d.state = 0 → DOk { d with state := st }) : BInv (decideB b n st) := by
  have hn := (List.getElem?_eq_some_iff.1 hd).1
  unfold decideB; rw [hd]; dsimp only
  split
  · exact h
  · rename_i h0
    have h0 : d.state = 0 := by omega
    have hno : (n : Int) ∉ b.order := fun hc => by
      have := (h.ord n).1 hc
      rw [stateB_at hd] at this; omega
    refine ⟨by simpa using h.len, fun x hx => ?_, ?_, fun m => ?_⟩
    · rcases List.mem_or_eq_of_mem_set hx with hx | rfl
      · exact h.d x hx
      · exact hk h0
    · dsimp only
      split
      · rw [List.nodup_append]
        exact ⟨h.nd, by simp, fun a ha x hx => by simp at hx; subst hx; intro e; subst e; exact hno ha⟩
      · exact h.nd
    · rw [stateB_set hn]
      dsimp only
      by_cases hs : st = 1
      · rw [if_pos hs, List.mem_append, h.ord]
        by_cases e : m = n
        · simp [e, hs]
        · simp [e]
      · rw [if_neg hs, h.ord]
        by_cases e : m = n
        · subst e; rw [stateB_at hd]; simp [hs]; omega
        · simp [e]
theorem BInv.new : BInv ⟨[], []⟩ := ⟨by simp, by simp, by simp, fun n => by simp [stateB_out]; intro h; unfold stateB at h; split at h <;> simp at h⟩
theorem noYes_len (l : List Want) : (noYes l).length = l.length := by simp [noYes]
theorem noYes_false {l : List Want} (h : 0 < l.length) : (noYes l).contains false = true := by
  unfold noYes
  cases l with
  | nil => simp at h
  | cons a l => simp [List.replicate_succ]
theorem BInv.begin {b : BrokS} (h : BInv b) (l : List Want) : BInv (beginB b l).1 := by
  unfold beginB
  split
  · exact h
  · rename_i hc
    have hc : (checkL l).code = 0 := by omega
    split
    · exact h
    · rename_i h8
      have hl := ((checkL_ok l).1 hc)
      refine ⟨by simp; omega, fun d hd => ?_, h.nd, fun n => ?_⟩
      · rcases List.mem_append.1 hd with hd | hd
        · exact h.d d hd
        · simp at hd; subst hd
          exact ⟨hc, .inl rfl, noYes_len l, fun _ => ⟨rfl, noYes_false hl.1⟩, by simp, by simp⟩
      · dsimp only
        rw [h.ord]
        unfold stateB
        dsimp only
        by_cases h0 : n < 0
        · rw [if_pos h0, if_pos h0]
        · rw [if_neg h0, if_neg h0]
          by_cases hlt : n.toNat < b.l.length
          · rw [List.getElem?_append_left hlt]
          · rw [List.getElem?_eq_none (l := b.l) (by omega), List.getElem?_append_right (by omega)]
            by_cases e : n.toNat - b.l.length = 0
            · simp [e]
            · rw [List.getElem?_eq_none (by simp; omega)]
theorem BInv.quit {b : BrokS} (h : BInv b) (n : Int) : BInv (quitB b n).1 := by
  unfold quitB
  split
  · exact h
  · split
    · rename_i h1 h2
      rcases h.st n with ⟨e, _⟩ | ⟨n0, nl, _⟩
      · omega
      · obtain ⟨d, hd, e⟩ := stateB_in (b := b) n0 nl
        have hk := h.d d (List.mem_of_getElem? hd)
        exact h.dec hd 2 (.inr rfl) fun h0 => ⟨hk.w, .inr (.inr rfl), hk.y, (fun h => by cases h), hk.ov⟩
    · exact h
theorem atW_some {l : List Want} {c d : Int} {i : Nat} (h : atW l c d = some i) : l[i]? = some ⟨c, d⟩ ∧ ∀ j, j < i → l[j]? ≠ some ⟨c, d⟩ := by
  unfold atW at h
  rw [List.findIdx?_eq_some_iff_getElem] at h
  obtain ⟨h1, h2, h3⟩ := h
  refine ⟨by rw [List.getElem?_eq_getElem h1]; simpa using h2, fun j hj e => ?_⟩
  have := h3 j hj
  rw [List.getElem?_eq_getElem (by omega)] at e
  simp at e this
  exact this e
theorem atW_none {l : List Want} {c d : Int} (h : atW l c d = none) : ⟨c, d⟩ ∉ l := by
  unfold atW at h
  rw [List.findIdx?_eq_none_iff] at h
  intro hm
  simpa using h _ hm
theorem BInv.hear {b : BrokS} (h : BInv b) (m : Mail) : BInv (hearB b m) := by
  unfold hearB
  split
  · exact h
  · rename_i hn0
    split
    · exact h
    · rename_i d hd
      have hk := h.d d (List.mem_of_getElem? hd)
      split
      · split
        · exact h
        · rename_i i hi
          have hi' := (atW_some hi).1
          have hil := (List.getElem?_eq_some_iff.1 hi').1
          split
          · exact h
          · rename_i hs
            have hs : shopOf m.ctr = m.shop ∧ d.state = 0 := by omega
            split
            · exact h.dec hd 2 (.inr rfl) fun h0 => ⟨hk.w, .inr (.inr rfl), hk.y, (fun h => by cases h), hk.ov⟩
            · split
              · rename_i hc
                exact h.put hd rfl ⟨hk.w, hk.st, by simpa using hk.y, fun h0 => ⟨(hk.op h0).1, hc⟩, hk.ov⟩
              · rename_i hc
                -- the last one
                have hnl := (List.getElem?_eq_some_iff.1 hd).1
                have e : decideB (setD b m.deal.toNat { d with yes := d.yes.set i true }) m.deal.toNat 1 = ⟨b.l.set m.deal.toNat { d with yes := d.yes.set i true, state := 1 }, b.order ++ [((m.deal.toNat : Nat) : Int)]⟩ := by
                  unfold decideB setD
                  dsimp only
                  rw [List.getElem?_set_self hnl]
                  dsimp only
                  rw [if_neg (by omega)]; simp
                rw [e]
                have hk2 : DOk { d with yes := d.yes.set i true, state := 1 } := ⟨hk.w, .inr (.inl rfl), by simpa using hk.y, (fun h => by cases h), hk.ov⟩
                have := h.dec hd 1 (.inl rfl) fun h0 => ⟨hk.w, .inr (.inl rfl), hk.y, (fun h => by cases h), hk.ov⟩
                unfold decideB at this; rw [hd] at this; dsimp only at this; rw [if_neg (by omega), if_pos rfl] at this
                refine ⟨by simpa using h.len, fun x hx => ?_, this.nd, fun q => ?_⟩
                · rcases List.mem_or_eq_of_mem_set hx with hx | rfl
                  · exact h.d x hx
                  · exact hk2
                · have e2 := this.ord q
                  dsimp only at e2 ⊢
                  rw [e2, stateB_set hnl, stateB_set hnl]
      · split
        · split
          · rename_i hc
            refine h.put hd rfl ⟨hk.w, hk.st, hk.y, fun h0 => absurd h0 hc.1, ?_, ?_⟩
            · rw [List.nodup_append]
              refine ⟨hk.ov.1, by simp, fun a ha x hx => ?_⟩
              simp at hx; subst hx
              intro e; subst e
              have := hc.2.2
              simp [ha] at this
            · intro s hs'
              rcases List.mem_append.1 hs' with hs' | hs'
              · exact hk.ov.2 s hs'
              · simp at hs'; subst hs'; simpa using hc.2.1
          · exact h
        · exact h
theorem crashD_ok {d : Deal} (h : DOk d) : DOk (crashD d) := by
  refine ⟨h.w, ?_, noYes_len _, fun h0 => ?_, by simp [crashD], by simp [crashD]⟩
  · unfold crashD; dsimp only; split
    · exact .inr (.inr rfl)
    · exact h.st
  · exfalso
    unfold crashD at h0; dsimp only at h0
    split at h0
    · cases h0
    · rename_i h1; exact h1 h0
theorem stateB_crash (b : BrokS) (n : Int) : stateB (crashB b) n = if stateB b n = 0 then 2 else stateB b n := by
  unfold stateB crashB
  dsimp only
  split
  · rfl
  · rw [List.getElem?_map]
    cases b.l[n.toNat]? with
    | none => rfl
    | some d => rfl
theorem BInv.crash {b : BrokS} (h : BInv b) : BInv (crashB b) := by
  refine ⟨by simpa [crashB] using h.len, fun d hd => ?_, h.nd, fun n => ?_⟩
  · obtain ⟨x, hx, rfl⟩ := List.mem_map.1 hd
    exact crashD_ok (h.d x hx)
  · show n ∈ b.order ↔ _
    rw [h.ord, stateB_crash]
    split
    · rename_i e; rw [e]; simp
    · rfl

end Go.Proofs.YtmakdilmibjpbabGreatDoor
