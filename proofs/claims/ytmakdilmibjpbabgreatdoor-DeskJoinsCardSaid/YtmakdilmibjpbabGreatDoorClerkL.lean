/- What the statements of a clerk ask, in plain Lean. No program in sight. -/
import Derived.Test.YtmakdilmibjpbabGreatDoorAns
namespace Go.Proofs.YtmakdilmibjpbabGreatDoor
open Go Go.RowKit
set_option linter.unusedVariables false
set_option linter.unusedSimpArgs false
theorem doC_again {s : ShopS} {r : Rec} (h : ShInv s) (h0 : (doC s r).2 = 0) : doC (doC s r).1 r = ((doC s r).1, 0) := by
  rcases doC_ok h0 with ⟨hk, hd, e⟩ | ⟨hk, h2, h3, e⟩
  · rw [e] at h0 ⊢
    have hf : recF r = 0 := recF_hold hk hd
    unfold doC; rw [if_neg (by omega)]
    unfold doR; rw [if_pos hk]
    exact holdS_again h h0
  · rw [e] at h0 ⊢
    have hf : recF r = 0 := recF_end hk h2 h3
    unfold doC; rw [if_neg (by omega)]
    unfold doR; rw [if_neg (by omega), if_pos hk]
    exact endS_again h0
theorem doK_err {k : KeepS} {r : Rec} (h : (doK k r).2 ≠ 0) : (doK k r).1 = k := by
  have h' : (doC k.shop r).2 ≠ 0 := h
  simp only [doK, doC_err h', h', false_and, if_false]
theorem doK_again {k : KeepS} (hI : KInv k) (r : Rec) : doK (doK k r).1 r = ((doK k r).1, (doK k r).2) := by
  by_cases h : (doK k r).2 = 0
  · have h' : (doC k.shop r).2 = 0 := h
    have e := doC_again hI.sh h'
    have hm : r ∈ (doK k r).1.l := by
      simp only [doK]
      split
      · simp
      · rename_i hn
        exact Classical.byContradiction fun hc => hn ⟨h', hc⟩
    have hsh : (doK k r).1.shop = (doC k.shop r).1 := rfl
    rw [h]
    have e2 : doC (doK k r).1.shop r = ((doK k r).1.shop, 0) := e
    generalize (doK k r).1 = k1 at e2 hm ⊢
    simp only [doK, e2, hm, not_true_eq_false, and_false, if_false]
  · rw [doK_err h]
    exact Prod.ext (doK_err h) rfl
theorem ansK_again {k : KeepS} (hI : KInv k) (m : Mail) : ansK (ansK k m).1 m = ((ansK k m).1, (ansK k m).2) := by
  by_cases h0 : m.shop ≠ k.no
  · rw [ansK_1 h0]; exact ansK_1 h0
  · by_cases h1 : m.kind = 1
    · have e := doK_again hI ⟨1, m.deal, m.ctr, m.dl, false⟩
      rw [ansK_2 h0 h1]
      have h0' : ¬ m.shop ≠ (doK k ⟨1, m.deal, m.ctr, m.dl, false⟩).1.no := h0
      rw [ansK_2 h0' h1, e]
    · by_cases h3 : m.kind = 3
      · have e := doK_again hI ⟨2, m.deal, 0, 0, m.yes⟩
        have h0' : ¬ m.shop ≠ (doK k ⟨2, m.deal, 0, 0, m.yes⟩).1.no := h0
        by_cases hc : (doK k ⟨2, m.deal, 0, 0, m.yes⟩).2 = 0
        · rw [ansK_4 h0 h1 h3 hc]
          dsimp only
          rw [ansK_4 h0' h1 h3 (by rw [e]; exact hc), e]
        · rw [ansK_3 h0 h1 h3 hc]
          dsimp only
          rw [ansK_3 h0' h1 h3 (by rw [e]; exact hc), e]
      · rw [ansK_5 h0 h1 h3]; exact ansK_5 h0 h1 h3
theorem ansK_some {k : KeepS} {m a : Mail} (h : (ansK k m).2 = some a) : a.deal = m.deal ∧ a.shop = k.no ∧ a.ctr = m.ctr ∧ a.dl = m.dl ∧ m.shop = k.no := by
  by_cases h0 : m.shop ≠ k.no
  · rw [ansK_1 h0] at h; cases h
  · have h0' : m.shop = k.no := by omega
    by_cases h1 : m.kind = 1
    · rw [ansK_2 h0 h1] at h; cases h; exact ⟨rfl, h0', rfl, rfl, h0'⟩
    · by_cases h3 : m.kind = 3
      · by_cases hc : (doK k ⟨2, m.deal, 0, 0, m.yes⟩).2 = 0
        · rw [ansK_4 h0 h1 h3 hc] at h; cases h; exact ⟨rfl, h0', rfl, rfl, h0'⟩
        · rw [ansK_3 h0 h1 h3 hc] at h; cases h
      · rw [ansK_5 h0 h1 h3] at h; cases h
/-- Mail that is nothing to it. -/
theorem ansK_refuse {k : KeepS} {m : Mail} (h : m.shop ≠ k.no ∨ (m.kind ≠ 1 ∧ m.kind ≠ 3) ∨ (m.kind = 3 ∧ ∃ b, overL k.shop.over m.deal = some b ∧ b ≠ m.yes)) : ansK k m = (k, none) := by
  by_cases h0 : m.shop ≠ k.no
  · exact ansK_1 h0
  · rcases h with h | ⟨h1, h3⟩ | ⟨h3, b, hb, hne⟩
    · exact absurd h h0
    · exact ansK_5 h0 h1 h3
    · have hc : (doK k ⟨2, m.deal, 0, 0, m.yes⟩).2 ≠ 0 := by
        show (doC k.shop ⟨2, m.deal, 0, 0, m.yes⟩).2 ≠ 0
        unfold doC; rw [if_neg (by simp [recF])]
        unfold doR; rw [if_neg (by simp), if_pos rfl]
        dsimp only
        by_cases hd : m.deal < 0 ∨ 8 ≤ m.deal
        · rw [endS_1 hd]; simp
        · rw [endS_2 hd hb, if_neg hne]; simp
      rw [ansK_3 h0 (by omega) h3 hc, doK_err hc]
/-- Mail that asks. -/
theorem ansK_ask {k : KeepS} {m : Mail} (hs : m.shop = k.no) (hk : m.kind = 1) : ∃ a, (ansK k m).2 = some a ∧ (a.yes = false → (ansK k m).1 = k) ∧
    (a.yes = true → (⟨m.deal, m.ctr, m.dl⟩ : Hld) ∈ (ansK k m).1.shop.holds ∧ overL k.shop.over m.deal = none) := by
  rw [ansK_2 (by omega) hk]
  refine ⟨_, rfl, fun h => doK_err (by simpa using h), fun h => ?_⟩
  have h0 : (doK k ⟨1, m.deal, m.ctr, m.dl, false⟩).2 = 0 := by simpa using h
  have h0' : (doC k.shop ⟨1, m.deal, m.ctr, m.dl, false⟩).2 = 0 := h0
  show (⟨m.deal, m.ctr, m.dl⟩ : Hld) ∈ (doC k.shop ⟨1, m.deal, m.ctr, m.dl, false⟩).1.holds ∧ _
  rcases doC_ok h0' with ⟨_, _, e⟩ | ⟨h2, _⟩
  · rw [e] at h0' ⊢
    dsimp only at h0' ⊢
    rcases holdS_cases k.shop m.deal ⟨m.ctr, m.dl⟩ with ⟨e2, _⟩ | ⟨_, _, _, _, _, ho, hc⟩
    · exact absurd h0' e2
    · refine ⟨?_, ho⟩
      rcases hc with ⟨hm, e⟩ | ⟨_, _, e⟩
      · rw [e]; exact hm
      · rw [e]; simp
  · cases h2
theorem sameCases (k k2 : KeepS) : (¬ (k.shop.c0 = k2.shop.c0 ∧ k.shop.c1 = k2.shop.c1)) ∨ ((k.shop.c0 = k2.shop.c0 ∧ k.shop.c1 = k2.shop.c1) ∧ ¬ k.shop.holds = k2.shop.holds) ∨ ((k.shop.c0 = k2.shop.c0 ∧ k.shop.c1 = k2.shop.c1) ∧ k.shop.holds = k2.shop.holds) := by
  by_cases h1 : k.shop.c0 = k2.shop.c0 ∧ k.shop.c1 = k2.shop.c1
  · by_cases h2 : k.shop.holds = k2.shop.holds
    · exact .inr (.inr ⟨h1, h2⟩)
    · exact .inr (.inl ⟨h1, h2⟩)
  · exact .inl h1
def othB (k : KeepS) (m : Mail) (no : Int) : Bool := (!decide (m.shop = no) || !decide (m.kind = 1) && !decide (m.kind = 3)) || decide (m.kind = 3) && (overL k.shop.over m.deal).isSome && !((overL k.shop.over m.deal).getD false == m.yes)
theorem others_yes {k : KeepS} {m : Mail} {no : Int} (hn : k.no = no) (h : othB k m no = true) : ansK k m = (k, none) := by
  unfold othB at h
  refine ansK_refuse ?_
  rw [hn]
  by_cases h1 : m.shop = no
  · by_cases h2 : m.kind = 1
    · simp [h1, h2] at h
    · by_cases h3 : m.kind = 3
      · cases ho : overL k.shop.over m.deal with
        | none => simp [h1, h3, ho] at h
        | some b => exact .inr (.inr ⟨h3, b, rfl, by simpa [h1, h3, ho] using h⟩)
      · exact .inr (.inl ⟨h2, h3⟩)
  · exact .inl h1
theorem others_no {k : KeepS} {m : Mail} {no : Int} (hn : k.no = no) (h : othB k m no = false) : m.shop = no := by
  unfold othB at h
  simp at h
  exact h.1.1

end Go.Proofs.YtmakdilmibjpbabGreatDoor
