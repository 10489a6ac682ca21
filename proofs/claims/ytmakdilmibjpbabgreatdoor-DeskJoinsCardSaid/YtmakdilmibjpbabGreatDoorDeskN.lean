/- What a desk tells is in reach. Plain Lean. -/
import Derived.Test.YtmakdilmibjpbabGreatDoorDesks
namespace Go.Proofs.YtmakdilmibjpbabGreatDoor
open Go Go.RowKit
set_option linter.unusedVariables false
set_option linter.unusedSimpArgs false

theorem wantF_rng (w : Want) : 0 ≤ wantF w ∧ wantF w ≤ 2 := by
  unfold wantF dlt; (repeat' split) <;> omega
theorem scan_rng : ∀ (l pre : List Want), 0 ≤ (scanW pre l).code ∧ (scanW pre l).code ≤ 4
  | [], _ => by simp [scanW]
  | w :: l, pre => by
    have := wantF_rng w
    unfold scanW
    split
    · dsimp only; omega
    · split
      · dsimp only; omega
      · exact scan_rng l _
theorem check_rng (l : List Want) : 0 ≤ (checkL l).code ∧ (checkL l).code ≤ 4 := by
  unfold checkL
  split
  · dsimp only; omega
  · split
    · dsimp only; omega
    · exact scan_rng l []
theorem begin_rng (b : BrokS) (l : List Want) : 0 ≤ (beginB b l).2.2 ∧ (beginB b l).2.2 ≤ 6 := by
  have := check_rng l
  unfold beginB
  split
  · dsimp only; omega
  · split <;> dsimp only <;> omega
theorem deliver_rng (t : TownS) (n : Int) : 0 ≤ (deliverT t n).2 ∧ (deliverT t n).2 ≤ 10 := by
  unfold deliverT
  (repeat' split) <;> dsimp only <;> omega
theorem step_rng (t : TownS) (x : StepS) : 0 ≤ (stepT t x).2 ∧ (stepT t x).2 ≤ 10 := by
  unfold stepT
  split
  · have := begin_rng t.b x.wants; dsimp only; omega
  split
  · dsimp only; omega
  split
  · exact deliver_rng t x.n
  split
  · split <;> dsimp only <;> omega
  split
  · (repeat' split) <;> dsimp only <;> omega
  split
  · unfold quitB; (repeat' split) <;> dsimp only <;> omega
  split
  · (repeat' split) <;> dsimp only <;> omega
  split <;> dsimp only <;> omega
theorem step_i64 (t : TownS) (x : StepS) : i64 (stepT t x).2 := by have := step_rng t x; unfold i64; omega
theorem Wr.getD {ws : List Int} (h : ∀ w ∈ ws, Wr w) (i : Nat) : Wr (ws.getD i 0) := by
  rw [List.getD_eq_getElem?_getD]
  cases e : ws[i]? with
  | none => exact ⟨by simp, by simp⟩
  | some w => exact h w (List.mem_of_getElem? e)
theorem z6_rng : ∀ w ∈ z6, Wr w := by unfold Wr; decide
theorem go_rng : ∀ (l : List Want) (ws : List Int) (i : Nat), (∀ w ∈ ws, Wr w) → ∀ w ∈ (goA ws l i).1, Wr w
  | [], ws, i, h => by unfold goA; exact h
  | x :: l, ws, i, h => by
    unfold goA
    split
    · exact z6_rng
    split
    · exact z6_rng
    split
    · exact z6_rng
    · refine go_rng l _ _ fun w hw => ?_
      rcases List.mem_or_eq_of_mem_set hw with hw | rfl
      · exact h w hw
      · exact ⟨by omega, by omega⟩
theorem apply_rng {ws : List Int} (h : ∀ w ∈ ws, Wr w) (l : List Want) : ∀ w ∈ (applyL ws l).1, Wr w := by
  unfold applyL; split
  · exact z6_rng
  · exact go_rng l ws 0 h
theorem serialL_rng (b : BrokS) : ∀ (l ws : List Int), (∀ w ∈ ws, Wr w) → ∀ w ∈ (serialL b ws l).1, Wr w
  | [], ws, h => by unfold serialL; exact h
  | n :: l, ws, h => by
    unfold serialL; split
    · exact z6_rng
    · exact serialL_rng b l _ (apply_rng h _)
theorem Wr.i64 {w : Int} (h : Wr w) : i64 w := by unfold Wr at h; unfold Go.Proofs.YtmakdilmibjpbabGreatDoor.i64; omega
theorem DInv.serial {t : TownS} (h : DInv t) : (serialT t).2 = 0 ∧ (serialT t).1.length = 6 ∧ ∀ w ∈ (serialT t).1, Go.Proofs.YtmakdilmibjpbabGreatDoor.i64 w := by
  refine ⟨by rw [h.ti.ser], by rw [h.ti.ser]; simp, fun w hw => Wr.i64 (serialL_rng t.b _ _ h.wr w hw)⟩
theorem DInv.world {t : TownS} (h : DInv t) : ∀ w ∈ worldT t, Go.Proofs.YtmakdilmibjpbabGreatDoor.i64 w := by
  intro w hw
  unfold worldT at hw
  simp only [List.mem_flatMap] at hw
  obtain ⟨k, hk, hw⟩ := hw
  obtain ⟨s, hs, e⟩ := List.mem_iff_getElem.1 hk
  have hI := (h.ti.k s k (by rw [← e]; exact List.getElem?_eq_getElem hs)).1.sh
  have h0 := chk_ok hI.k0
  have h1 := chk_ok hI.k1
  simp only [List.mem_cons, List.not_mem_nil, or_false] at hw
  unfold Go.Proofs.YtmakdilmibjpbabGreatDoor.i64
  rcases hw with rfl | rfl <;> omega
theorem BInv.order {b : BrokS} (h : BInv b) : ∀ n ∈ b.order, Go.Proofs.YtmakdilmibjpbabGreatDoor.i64 n := by
  intro n hn
  have h1 := (h.ord n).1 hn
  have h2 := h.len
  unfold Go.Proofs.YtmakdilmibjpbabGreatDoor.i64
  rcases h.st n with q | q <;> omega
theorem BInv.state {b : BrokS} (h : BInv b) (n : Int) : Go.Proofs.YtmakdilmibjpbabGreatDoor.i64 (stateB b n) := by
  unfold Go.Proofs.YtmakdilmibjpbabGreatDoor.i64
  rcases h.st n with q | q <;> omega
theorem ShInv.cnt {s : ShopS} (h : ShInv s) : (∀ n ∈ [s.c0.v, s.c0.o, s.c0.i], Go.Proofs.YtmakdilmibjpbabGreatDoor.i64 n) ∧ ∀ n ∈ [s.c1.v, s.c1.o, s.c1.i], Go.Proofs.YtmakdilmibjpbabGreatDoor.i64 n := by
  have h0 := chk_ok h.k0
  have h1 := chk_ok h.k1
  unfold Go.Proofs.YtmakdilmibjpbabGreatDoor.i64
  constructor <;> intro n hn <;> simp only [List.mem_cons, List.not_mem_nil, or_false] at hn <;> rcases hn with rfl | rfl | rfl <;> omega
theorem ShInv.hold {s : ShopS} (h : ShInv s) {x : Hld} (hx : x ∈ s.holds) : ∀ n ∈ [x.deal, x.ctr, x.dl], Go.Proofs.YtmakdilmibjpbabGreatDoor.i64 n := by
  obtain ⟨h1, h2, h3, h4, -⟩ := h.h x hx
  have := dlt_ok h3
  have := h.no0
  have := h.no3
  unfold Go.Proofs.YtmakdilmibjpbabGreatDoor.i64
  intro n hn
  simp only [List.mem_cons, List.not_mem_nil, or_false] at hn
  rcases hn with rfl | rfl | rfl <;> omega
theorem calm_i64 (t : TownS) : i64 (calmT t).2 := by have := calm_le t; unfold i64; omega

end Go.Proofs.YtmakdilmibjpbabGreatDoor
