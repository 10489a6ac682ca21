/- What the statements on shops ask, in plain Lean. No program in sight. -/
import Derived.Test.YtmakdilmibjpbabShops
namespace Go.Proofs.Ytmakdilmibjpbab
open Go Go.RowKit
set_option linter.unusedVariables false
set_option linter.unusedSimpArgs false
/-! ### Sums -/
theorem outH_take {l : List Hld} {i : Nat} {x : Hld} (h : l[i]? = some x) (c : Int) : outH c (l.take (i + 1)) = outH c (l.take i) + (if x.ctr = c ∧ x.dl < 0 then -x.dl else 0) ∧ inH c (l.take (i + 1)) = inH c (l.take i) + (if x.ctr = c ∧ ¬ x.dl < 0 then x.dl else 0) := by
  have e : l.take (i + 1) = l.take i ++ [x] := by rw [List.take_add_one, h]; rfl
  rw [e, outH_app, inH_app]; simp only [outH, inH]; omega
theorem sumH_app (c d : Int) (l k : List Hld) : sumH c d (l ++ k) = sumH c d l + sumH c d k := by
  induction l with
  | nil => simp [sumH]
  | cons x l ih => simp only [List.cons_append, sumH, ih]; omega
theorem sumH_take {l : List Hld} {i : Nat} {x : Hld} (h : l[i]? = some x) (c d : Int) : sumH c d (l.take (i + 1)) = sumH c d (l.take i) + (if x.ctr = c ∧ x.deal = d then x.dl else 0) := by
  have e : l.take (i + 1) = l.take i ++ [x] := by rw [List.take_add_one, h]; rfl
  rw [e, sumH_app]; simp only [sumH]; omega
theorem outH_le {l : List Hld} (h : ∀ x ∈ l, -100 ≤ x.dl ∧ x.dl ≤ 100) (c : Int) : outH c l ≤ 100 * l.length ∧ inH c l ≤ 100 * l.length := by
  induction l with
  | nil => simp [outH, inH]
  | cons x l ih =>
    have := ih (fun y hy => h y (by simp [hy])); have := h x (by simp)
    simp only [outH, inH, List.length_cons]; constructor <;> split <;> omega
theorem ShInv.dl {s : ShopS} (h : ShInv s) : ∀ x ∈ s.holds, -100 ≤ x.dl ∧ x.dl ≤ 100 := fun x hx => by have := dlt_ok (h.h x hx).2.2.1; omega
/-- What it has, and what was held of deals that are over and done. -/
theorem stepSh_v {s : ShopS} {x : SStep} (hI : ShInv s) : (stepSh s x).1.no = s.no ∧
    (x.d = 1 ∧ (stepSh s x).2 = 0 ∧ (overL s.over x.deal).isSome = false ∧ x.done = true → (stepSh s x).1.c0.v = s.c0.v + sumH (2 * s.no) x.deal s.holds ∧ (stepSh s x).1.c1.v = s.c1.v + sumH (2 * s.no + 1) x.deal s.holds) ∧
    (¬ (x.d = 1 ∧ (stepSh s x).2 = 0 ∧ (overL s.over x.deal).isSome = false ∧ x.done = true) → (stepSh s x).1.c0.v = s.c0.v ∧ (stepSh s x).1.c1.v = s.c1.v) := by
  by_cases h0 : x.d = 0
  · have e : stepSh s x = holdS s x.deal x.w := by unfold stepSh; rw [if_pos h0]
    rw [e]
    have hv : (holdS s x.deal x.w).1.no = s.no ∧ (holdS s x.deal x.w).1.c0.v = s.c0.v ∧ (holdS s x.deal x.w).1.c1.v = s.c1.v := by
      rcases holdS_cases s x.deal x.w with ⟨_, e⟩ | ⟨_, _, _, _, _, _, hc⟩
      · rw [e]; exact ⟨rfl, rfl, rfl⟩
      · rcases hc with ⟨_, e⟩ | ⟨_, hok, e⟩
        · rw [e]; exact ⟨rfl, rfl, rfl⟩
        · rw [e]
          have hvv : ∀ y : Cnt, (hold y x.w.dl).2 = 0 → (hold y x.w.dl).1.v = y.v := fun y hy => by
            rcases (hold_ok hy).2.2 with ⟨_, _, e⟩ | ⟨_, _, e⟩ <;> rw [e]
          refine ⟨ShopS.set_no _ _ _, ?_, ?_⟩
          · unfold ShopS.set; unfold ShopS.cnt at hok ⊢
            by_cases e : x.w.ctr % 2 = 0
            · rw [if_pos e] at hok ⊢; rw [if_pos e]; exact hvv _ hok
            · rw [if_neg e]
          · unfold ShopS.set; unfold ShopS.cnt at hok ⊢
            by_cases e : x.w.ctr % 2 = 0
            · rw [if_pos e]
            · rw [if_neg e] at hok ⊢; rw [if_neg e]; exact hvv _ hok
    exact ⟨hv.1, fun h => by omega, fun _ => hv.2⟩
  · by_cases h1 : x.d = 1
    · have e : stepSh s x = endS s x.deal x.done := by unfold stepSh; rw [if_neg h0, if_pos h1]
      rw [e]
      rcases endS_cases s x.deal x.done with ⟨e1, e2, _⟩ | ⟨d0, d8, ho, e1⟩
      · rw [e1]
        refine ⟨rfl, fun ⟨_, h2, h3, _⟩ => ?_, fun _ => ⟨rfl, rfl⟩⟩
        have := (e2.1 h2).2.2
        rw [this] at h3; cases h3
      · obtain ⟨_, q0, q1, _, _, q4, q5⟩ := hI.end' (b := x.done) d0 d8 ho
        refine ⟨q1, fun ⟨_, _, _, h4⟩ => ?_, fun h => ?_⟩
        · rw [h4] at q4 q5 ⊢; exact ⟨by simpa using q4, by simpa using q5⟩
        · have : ¬ x.done = true := fun h4 => h ⟨h1, q0, by rw [ho]; rfl, h4⟩
          have hf : x.done = false := by simpa using this
          rw [hf] at q4 q5 ⊢; exact ⟨by simpa using q4, by simpa using q5⟩
    · have e : stepSh s x = (s, 0) := by unfold stepSh; rw [if_neg h0, if_neg h1]
      rw [e]
      exact ⟨rfl, fun h => by omega, fun _ => ⟨rfl, rfl⟩⟩
theorem sumH_le {l : List Hld} (h : ∀ x ∈ l, -100 ≤ x.dl ∧ x.dl ≤ 100) (c d : Int) : -(100 * (l.length : Int)) ≤ sumH c d l ∧ sumH c d l ≤ 100 * l.length := by
  induction l with
  | nil => simp [sumH]
  | cons x l ih =>
    have := ih (fun y hy => h y (by simp [hy])); have := h x (by simp)
    simp only [sumH, List.length_cons]; constructor <;> split <;> omega
def runS : ShopS → List SStep → ShopS
  | s, [] => s
  | s, x :: l => runS (stepSh s x).1 l
theorem runS_app (l : List SStep) (x : SStep) : ∀ s : ShopS, runS s (l ++ [x]) = (stepSh (runS s l) x).1 := by
  induction l with
  | nil => intro s; rfl
  | cons y l ih => intro s; exact ih _
theorem runS_inv (l : List SStep) : ∀ {s : ShopS}, ShInv s → ShInv (runS s l) := by
  induction l with
  | nil => intro s h; exact h
  | cons y l ih => intro s h; exact ih (h.stp y)
theorem restH_same (d : Int) (x : Hld) (l : List Hld) (h : x.deal = d) : restH d (l ++ [x]) = restH d l := by
  unfold restH; rw [List.filter_append]; simp [h]
theorem stepSh_other (s : ShopS) (x : SStep) : restH x.deal (stepSh s x).1.holds = restH x.deal s.holds ∧ ∀ d, d ≠ x.deal → overL (stepSh s x).1.over d = overL s.over d := by
  unfold stepSh
  split
  · rcases holdS_cases s x.deal x.w with ⟨_, e⟩ | ⟨_, _, _, _, _, _, hc⟩
    · rw [e]; exact ⟨rfl, fun _ _ => rfl⟩
    · rcases hc with ⟨_, e⟩ | ⟨_, _, e⟩
      · rw [e]; exact ⟨rfl, fun _ _ => rfl⟩
      · rw [e]
        refine ⟨restH_same _ _ _ rfl, fun d _ => ?_⟩
        dsimp only; rw [ShopS.set_over]
  · split
    · rcases endS_cases s x.deal x.done with ⟨e, _⟩ | ⟨_, _, _, e⟩
      · rw [e]; exact ⟨rfl, fun _ _ => rfl⟩
      · rw [e]
        refine ⟨?_, fun d hd => ?_⟩
        · dsimp only; unfold restH; rw [List.filter_filter]; simp
        · dsimp only; rw [overL_app]
          cases overL s.over d with
          | some b => rfl
          | none => dsimp only; rw [if_neg (fun e => hd e.symm)]
    · exact ⟨rfl, fun _ _ => rfl⟩

end Go.Proofs.Ytmakdilmibjpbab
