/- The walks of DeskD: written by a program of ours (gen.py) over the engine. -/
import Derived.Test.YtmakdilmibjpbabGreatDoorWants
import Derived.Test.YtmakdilmibjpbabGreatDoorFacts
import Derived.Test.YtmakdilmibjpbabGreatDoorDeskC
import Derived.Test.YtmakdilmibjpbabGreatDoorDeskN
namespace Go.Proofs.YtmakdilmibjpbabGreatDoor
open Go Go.RowKit
set_option linter.unusedVariables false
set_option linter.unusedSimpArgs false
set_option maxRecDepth 20000

theorem nilRd {M : Amb} {H : List HP} {sz : Nat} : Rd M H (.slice Option.none 0 0) sz [] := ⟨fun r hr => by simp at hr, _, 0, rfl, by simp, by simp, fun _ => ⟨rfl, rfl⟩, (fun _ hA _ => by cases hA)⟩
theorem town_StepN (M : Amb) (b : Nat) (t : TownS) (hT : TInv t) (k n : Int) : FnC Tryz.prog M 36 [ptr b, .agg #[.int .i64 k, .int .i64 n, .slice Option.none 0 0]] (.int .i64 (stepT t ⟨k, n, []⟩).2) [townP b t] [townP b (stepT t ⟨k, n, []⟩).1] := fun R =>
  town_Step M R b t hT ⟨k, n, .slice Option.none 0 0, []⟩ nilRd (by simp)
theorem town_StepW (M : Amb) (b : Nat) (t : TownS) (hT : TInv t) (k n : Int) (wv : Value) (ws : List Want) (hb : ws.length ≤ 100000) : FnC Tryz.prog M 36 [ptr b, .agg #[.int .i64 k, .int .i64 n, wv]] (.int .i64 (stepT t ⟨k, n, ws⟩).2) [townP b t, sl wv 115 2 (ws.map rW)] [townP b (stepT t ⟨k, n, ws⟩).1, sl wv 115 2 (ws.map rW)] := fun R w ho => by
  have hr : Rd M [sl wv 115 2 (ws.map rW)] wv 2 (ws.map rW) := sl_rd (R := townP b t :: R) (ho.ent (Ent.swap))
  exact town_Step M (sl wv 115 2 (ws.map rW) :: R) b t hT ⟨k, n, wv, ws⟩ (hr.ent (Ent.one Ent.h)) hb w ho
theorem pairs_at {l : List Int} {i : Nat} {a b : Int} (h1 : l[i]? = some a) (h2 : l[i + 1]? = some b) : pairsL (l.drop i) = ⟨a, b⟩ :: pairsL (l.drop (i + 2)) := by
  rw [drop_at h1, drop_at h2]; rfl
theorem pairs_end {l : List Int} {i : Nat} (h : l.length ≤ i + 1) : pairsL (l.drop i) = [] := by
  rcases hd : l.drop i with _ | ⟨a, _ | ⟨b, r⟩⟩
  · rfl
  · rfl
  · have := congrArg List.length hd
    simp at this; omega

theorem desk_begin (M : Amb) (L : LibOk M) (b tb : Nat) (u : List UInt8) (t : TownS) (hT : TInv t) (v : Value) (l : List Int) (hl : l.length ≤ 100000) (hu : u.length ≤ 1000000000) : FnC Tryz.prog M 37 [ptr b, v] (resVal []) [bdP b tb u, townP tb t, sl v 3 1 (l.map rI)] [bdP b tb (u ++ codeS (stepT t ⟨1, 0, pairsL l⟩).2), townP tb (stepT t ⟨1, 0, pairsL l⟩).1, sl v 3 1 (l.map rI)] := by
 refine fnc_intro Tryz.func37 rfl Tryz.ntmps37 rfl fun R F hF => ?_
 refine r_cat ?_
 refine r_rd v fun hv => ?_
 refine r_sr (p_as rfl rfl (o_keep (.c 0 rfl (.c 1 rfl (.c 4 rfl .n))) (r_seq (r_sr (p_as rfl rfl (o_keep (.c 0 rfl (.c 1 rfl (.c 4 rfl (.c 5 rfl .n)))) (r_block ?_)))))))
 refine r_loop_3 (fun (i : Nat) (wv : Value) (ws : List Want) => [(5, true, .int .i64 (i : Int)), (4, true, wv)]) (.c 0 rfl (.c 1 rfl .n)) (fun (i : Nat) (wv : Value) (ws : List Want) => sl wv 115 2 ((ws).map rW) :: bdP b tb u :: townP tb t :: sl v 3 1 (l.map rI) :: R) (fun (i : Nat) (wv : Value) (ws : List Want) => i ≤ l.length + 1 ∧ ws ++ pairsL (l.drop i) = pairsL l ∧ 2 * ws.length ≤ i) (fun (i : Nat) (wv : Value) (ws : List Want) => l.length + 2 - i) (0) (.slice Option.none 0 0) ([]) ?_ (.c 5 rfl (.c 4 rfl .n)) ?_ (fun i wv ws hI => ?_)
 ·exact ⟨Nat.zero_le _, rfl, by simp⟩
 ·repeat first|exact eR|refine eB ?_|refine eS ?_|refine eN ?_|refine eX ?_|refine eD ?_
 ·skip
  obtain ⟨hi0, hp, hwl⟩ := hI
  refine r_seq (r_sr (p_mv rfl rfl (p_add rfl rfl (by omega) rfl (p_mv rfl rfl (l_op (x_p (pv_lens (Rd.len hv) ⟨_, Tryz.underlying59⟩ (.n rfl) rfl rfl rfl rfl (fun _ => rfl)) rfl rfl (p_lss rfl rfl rfl (o_keep (.c 0 rfl (.c 1 rfl (.c 4 rfl (.c 5 rfl (.c 10 rfl .n))))) ?_))))))))
  refine r_cond _ rfl (fun h1 => ?_) (fun h1 => ?_)
  ·skip
   have hi1 : i + 1 < l.length := by have := of_decide_eq_true h1; omega
   obtain ⟨x, hx⟩ := getlt (l := l) (i := i) (by omega)
   obtain ⟨y, hy⟩ := getlt (l := l) (i := i + 1) (by omega)
   rw [pairs_at hx hy] at hp
   refine r_skip (r_seq (r_block ?_))
   refine r_plan (_) ([sl wv 115 2 ((ws).map rW)]) mo (.c 0 rfl (.c 1 rfl (.c 4 rfl (.c 5 rfl .n)))) (SelS.ent) ?_
   refine qp 0 [.k 4] rfl rfl rfl rfl (by kernel_rfl) rfl (u_mv rfl rfl rfl) (qp 1 [.k 1] rfl rfl rfl rfl (by kernel_rfl) rfl (u_mv rfl rfl rfl) (qp 2 [.k 5] rfl rfl rfl rfl (by kernel_rfl) rfl (u_mv rfl rfl rfl) (qp 3 [.o 1, .o 2] rfl rfl rfl rfl (by kernel_rfl) rfl (pv_idx Tryz.underlying59 (.ofC tc_3) hv (fun hg => ⟨rfl, (mapget hx)⟩) (.n rfl) rfl rfl rfl (fun _ => ⟨rfl, rfl⟩)) ?_)))
   refine qr 4 [.o 3] rfl rfl rfl rfl (by kernel_rfl) rfl (fun He => rv_ldat (j := 0) tc_3 (Rd.ent hv (by repeat (first | exact Ent.rfl | exact Ent.one Ent.h | exact Ent.one (SelS.ent) | exact Ent.nil | exact Ent.left | refine Ent.dropR ?_ | refine Ent.tr Ent.skip ?_))) (fun hg => (mapget hx)) (.n rfl) rfl rfl (fun _ => rfl) rfl (fun _ => rfl)) ?_
   refine qp 5 [.k 1] rfl rfl rfl rfl (by kernel_rfl) rfl (u_mv rfl rfl rfl) (qp 6 [.k 5] rfl rfl rfl rfl (by kernel_rfl) rfl (u_mv rfl rfl rfl) (qp 7 [.o 6] rfl rfl rfl rfl (by kernel_rfl) rfl (pv_add (fun _ => by omega) (.n rfl) rfl rfl rfl (fun _ => ⟨rfl, rfl⟩)) ?_))
   refine qp 8 [.o 5, .o 7] rfl rfl rfl rfl (by kernel_rfl) rfl (pv_idx Tryz.underlying59 (.ofC tc_3) hv (fun hg => ⟨by omega, (mapget hy)⟩) (.n rfl) rfl rfl rfl (fun _ => ⟨rfl, rfl⟩)) ?_
   refine qr 9 [.o 8] rfl rfl rfl rfl (by kernel_rfl) rfl (fun He => rv_ldat (j := 0) tc_3 (Rd.ent hv (by repeat (first | exact Ent.rfl | exact Ent.one Ent.h | exact Ent.one (SelS.ent) | exact Ent.nil | exact Ent.left | refine Ent.dropR ?_ | refine Ent.tr Ent.skip ?_))) (fun hg => (mapget hy)) (.n rfl) rfl rfl (fun _ => rfl) rfl (fun _ => rfl)) ?_
   refine qp 10 [.o 4, .o 9] rfl rfl rfl rfl (by kernel_rfl) rfl (pv_build zr_115 pl_115 (.n rfl) rfl (.c rfl (fun _ => rfl) rfl rfl rfl (by repeat constructor) (.c rfl (fun _ => rfl) rfl rfl rfl (by repeat constructor) .n))) ?_
   refine qm_bslice1 Tryz.underlying85 (.ofA ta_115) zr_115 rfl (i := 11) [.o 10] (by kernel_rfl) (by kernel_rfl) rfl rfl rfl rfl (by kernel_rfl) (by kernel_rfl) ⟨_, .n rfl, rfl⟩ rfl rfl rfl rfl rfl rfl fun b24 => ?_
   refine qa_append Tryz.underlying85 el_115 rfl rfl (i := 12) [.o 0, .o 11] (by kernel_rfl) (by kernel_rfl) rfl rfl rfl rfl (by kernel_rfl) (by kernel_rfl) ⟨_, .n rfl, rfl⟩ rfl rfl rfl (Rd.blit rfl rfl) (by simp; omega) fun v25 => ?_
   refine qm_rd v25 fun hr25 => ?_
   refine qp 13 [.o 12] rfl rfl rfl rfl (by kernel_rfl) rfl (u_as rfl rfl rfl) ?_
   refine qm_n (by kernel_rfl) (by kernel_rfl) (by kernel_rfl) (by kernel_rfl) (.c 0 rfl (.c 1 rfl (.c 4 rfl (.c 5 rfl .n)))) ?_
   refine r_end (r_region (p_mv rfl rfl (p_add rfl rfl (by omega) rfl (p_as rfl rfl (o_keep (.c 0 rfl (.c 1 rfl (.c 4 rfl (.c 5 rfl .n)))) ?_)))))
   refine r_back_3 (i + 2) (v25) (ws ++ [⟨x, y⟩]) ?_ ?_ (Keep.app (.c 5 rfl (.c 4 rfl .n)) (.c 0 rfl (.c 1 rfl .n))) ?_
   ·exact ⟨by omega, by simpa using hp, by simp; omega⟩
   ·omega
   ·simp only [List.map_append, List.map_cons, List.map_nil]; repeat first|exact eR|refine eB ?_|refine eS ?_|refine eN ?_|refine eX ?_|refine eD ?_
  ·skip
   have hi1 : l.length ≤ i + 1 := by have := of_decide_eq_false h1; omega
   rw [pairs_end hi1, List.append_nil] at hp
   subst hp
   refine r_exit rfl ?_
   refine r_rd wv fun hrw => ?_
   refine r_region (p_mv rfl rfl (p_mv rfl rfl (p_nil rfl rfl (p_fa fa_42_1 rfl rfl (l_op (x_r (rv_ldc tc_35 (bd_cell (SelX.ent (X := bdP b tb u))) (.n rfl) rfl rfl (fun _ => rfl)) rfl rfl ?_))))))
   refine p_mv rfl rfl ?_
   refine p_build zr_87 pl_87 (.c rfl (fun _ => rfl) rfl rfl rfl (by repeat constructor) (.c rfl (fun _ => rfl) rfl hrw.c1 rfl (by repeat constructor) .n)) rfl ?_
   refine p_callc cf_36 (.c rfl (.c rfl .n)) rfl (town_StepW _ tb t hT 1 0 wv (pairsL l) (by omega)) ?_
   refine p_callc cf_35 (.c rfl (.c rfl .n)) rfl (desk_code _ L b tb u (stepT t ⟨1, 0, pairsL l⟩).2 (step_i64 t _) (by omega)) ?_
   refine o_keep (.n) ?_
   refine r_fallc hF rfl ?_
   ·refine Ent.catI ?_; repeat first|exact eR|refine eB ?_|refine eS ?_|refine eN ?_|refine eX ?_|refine eD ?_

def w8 : List (List UInt8) := [[], [], [], [100, 101, 108, 105, 118, 101, 114], [108, 111, 115, 101], [100, 111, 117, 98, 108, 101], [113, 117, 105, 116], [115, 104, 111, 112]]
def w9 : List (List UInt8) := [[], [], [116, 105, 99, 107], [], [], [], [], [], [98, 114, 111, 107, 101, 114]]
theorem step_w (w : List UInt8) : (idxI w8 (fun x => decide (x = w)) ≤ 0 ∧ (w ≠ [100, 101, 108, 105, 118, 101, 114] ∧ w ≠ [108, 111, 115, 101] ∧ w ≠ [100, 111, 117, 98, 108, 101] ∧ w ≠ [113, 117, 105, 116] ∧ w ≠ [115, 104, 111, 112])) ∨ (w = [100, 101, 108, 105, 118, 101, 114] ∧ idxI w8 (fun x => decide (x = w)) = 3) ∨ (w = [108, 111, 115, 101] ∧ idxI w8 (fun x => decide (x = w)) = 4) ∨ (w = [100, 111, 117, 98, 108, 101] ∧ idxI w8 (fun x => decide (x = w)) = 5) ∨ (w = [113, 117, 105, 116] ∧ idxI w8 (fun x => decide (x = w)) = 6) ∨ (w = [115, 104, 111, 112] ∧ idxI w8 (fun x => decide (x = w)) = 7) := by
  by_cases h3 : w = [100, 101, 108, 105, 118, 101, 114]
  · subst h3; exact .inr (.inl ⟨rfl, by decide⟩)
  by_cases h4 : w = [108, 111, 115, 101]
  · subst h4; exact .inr (.inr (.inl ⟨rfl, by decide⟩))
  by_cases h5 : w = [100, 111, 117, 98, 108, 101]
  · subst h5; exact .inr (.inr (.inr (.inl ⟨rfl, by decide⟩)))
  by_cases h6 : w = [113, 117, 105, 116]
  · subst h6; exact .inr (.inr (.inr (.inr (.inl ⟨rfl, by decide⟩))))
  by_cases h7 : w = [115, 104, 111, 112]
  · subst h7; exact .inr (.inr (.inr (.inr (.inr ⟨rfl, by decide⟩))))
  refine .inl ⟨?_, h3, h4, h5, h6, h7⟩
  rcases idxI_cases w8 (fun x => decide (x = w)) with ⟨h, _⟩ | ⟨i, x, h, hi, hx, _⟩
  · omega
  · have hx' : x = w := of_decide_eq_true hx
    subst hx'
    have hil := (List.getElem?_eq_some_iff.1 hi).1
    have h8 : i < 8 := hil
    rcases (show i = 0 ∨ i = 1 ∨ i = 2 ∨ i = 3 ∨ i = 4 ∨ i = 5 ∨ i = 6 ∨ i = 7 by omega) with rfl | rfl | rfl | rfl | rfl | rfl | rfl | rfl
    · omega
    all_goals first
      | exact absurd (Option.some.inj hi).symm h3
      | exact absurd (Option.some.inj hi).symm h4
      | exact absurd (Option.some.inj hi).symm h5
      | exact absurd (Option.some.inj hi).symm h6
      | exact absurd (Option.some.inj hi).symm h7
      | (have he : x = [] := (Option.some.inj hi).symm
         subst he
         have h0 : idxI w8 (fun y => decide (y = ([] : List UInt8))) = 0 := by decide
         omega)
theorem step_v (w : List UInt8) : (idxI w9 (fun x => decide (x = w)) ≤ 0 ∧ (w ≠ [116, 105, 99, 107] ∧ w ≠ [98, 114, 111, 107, 101, 114])) ∨ (w = [116, 105, 99, 107] ∧ idxI w9 (fun x => decide (x = w)) = 2) ∨ (w = [98, 114, 111, 107, 101, 114] ∧ idxI w9 (fun x => decide (x = w)) = 8) := by
  by_cases h3 : w = [116, 105, 99, 107]
  · subst h3; exact .inr (.inl ⟨rfl, by decide⟩)
  by_cases h4 : w = [98, 114, 111, 107, 101, 114]
  · subst h4; exact .inr (.inr ⟨rfl, by decide⟩)
  refine .inl ⟨?_, h3, h4⟩
  rcases idxI_cases w9 (fun x => decide (x = w)) with ⟨h, _⟩ | ⟨i, x, h, hi, hx, _⟩
  · omega
  · have hx' : x = w := of_decide_eq_true hx
    subst hx'
    have hil := (List.getElem?_eq_some_iff.1 hi).1
    have h9 : i < 9 := hil
    rcases (show i = 0 ∨ i = 1 ∨ i = 2 ∨ i = 3 ∨ i = 4 ∨ i = 5 ∨ i = 6 ∨ i = 7 ∨ i = 8 by omega) with rfl | rfl | rfl | rfl | rfl | rfl | rfl | rfl | rfl
    · omega
    all_goals first
      | exact absurd (Option.some.inj hi).symm h3
      | exact absurd (Option.some.inj hi).symm h4
      | (have he : x = [] := (Option.some.inj hi).symm
         subst he
         have h0 : idxI w9 (fun y => decide (y = ([] : List UInt8))) = 0 := by decide
         omega)
/-- What a step is, as the program finds it. -/
theorem stepK_1 {w : List UInt8} {l : List Int} (h : 0 < idxI w8 (fun x => decide (x = w))) (hl : l.length = 1) : stepK w l = some ⟨idxI w8 (fun x => decide (x = w)), l.getD 0 0, []⟩ := by
  have hl0 : ¬ l.length = 0 := by omega
  rcases step_w w with ⟨h0, -⟩ | ⟨rfl, e⟩ | ⟨rfl, e⟩ | ⟨rfl, e⟩ | ⟨rfl, e⟩ | ⟨rfl, e⟩
  · omega
  all_goals
    rw [e]
    simp [stepK, hl]
theorem stepK_0 {w : List UInt8} {l : List Int} (h : 0 < idxI w9 (fun x => decide (x = w))) (hl : l.length = 0) : stepK w l = some ⟨idxI w9 (fun x => decide (x = w)), 0, []⟩ := by
  rcases step_v w with ⟨h0, -⟩ | ⟨rfl, e⟩ | ⟨rfl, e⟩
  · omega
  all_goals
    rw [e]
    simp [stepK, hl]
theorem stepK_b {l : List Int} (hl : l.length % 2 = 0) : stepK [98, 101, 103, 105, 110] l = some ⟨1, 0, pairsL l⟩ := by simp [stepK, hl]
theorem stepK_n {w : List UInt8} {l : List Int} (h1 : ¬ (0 < idxI w8 (fun x => decide (x = w)) ∧ l.length = 1)) (h2 : ¬ (0 < idxI w9 (fun x => decide (x = w)) ∧ l.length = 0)) (h3 : ¬ (w = [98, 101, 103, 105, 110] ∧ l.length % 2 = 0)) : stepK w l = none := by
  unfold stepK
  rw [if_neg h3]
  rcases step_w w with ⟨h0, a1, a2, a3, a4, a5⟩ | ⟨rfl, e⟩ | ⟨rfl, e⟩ | ⟨rfl, e⟩ | ⟨rfl, e⟩ | ⟨rfl, e⟩
  · rcases step_v w with ⟨_, b1, b2⟩ | ⟨rfl, e⟩ | ⟨rfl, e⟩
    · simp [a1, a2, a3, a4, a5, b1, b2]
    · rw [e] at h2; simp at h2; simp [h2]
    · rw [e] at h2; simp at h2; simp [h2]
  all_goals
    rw [e] at h1; simp at h1; simp [h1]

/-- What is told of a step, if it is one. -/
def tellO (t : TownS) (o : Option StepS) : TownS × List UInt8 := match o with
  | none => (t, [])
  | some x => tellS t x

theorem desk_step (M : Amb) (L : LibOk M) (b tb : Nat) (u : List UInt8) (t : TownS) (hT : TInv t) (w : List UInt8) (v : Value) (l : List Int) (hl : l.length ≤ 100000) (hu : u.length ≤ 1000000000) : FnC Tryz.prog M 23 [ptr b, str w, v] (.bool (stepK w l).isSome) [bdP b tb u, townP tb t, sl v 3 1 (l.map rI)] [bdP b tb (u ++ (tellO t (stepK w l)).2), townP tb (tellO t (stepK w l)).1, sl v 3 1 (l.map rI)] := by
 have htm : (l.length : Int).tmod 2 = ((l.length % 2 : Nat) : Int) := rfl
 refine fnc_intro Tryz.func23 rfl Tryz.ntmps23 rfl fun R F hF => ?_
 refine r_cat ?_
 refine r_rd v fun hv => ?_
 refine r_sr (p_as rfl rfl (o_keep (.c 0 rfl (.c 1 rfl (.c 2 rfl (.c 6 rfl .n)))) (r_sr ?_)))
 refine p_bsl Tryz.underlying22 (.ofC tc_9) zr_9 (.c rfl rfl rfl (.c rfl rfl rfl (.c rfl rfl rfl (.c rfl rfl rfl (.c rfl rfl rfl (.c rfl rfl rfl (.c rfl rfl rfl (.c rfl rfl rfl .n)))))))) (rows := w8.map rS) rfl rfl rfl rfl fun b9 hr9 => ?_
 refine p_mv rfl rfl ?_
 refine p_callv cf_34 (.c rfl (.c rfl .n)) rfl (str_Index _ _ _ w8 w (Rd.ent hr9 (by repeat (first | exact Ent.rfl | exact Ent.one Ent.h | exact Ent.one (SelS.ent) | exact Ent.nil | exact Ent.left | refine Ent.dropR ?_))) (by decide)) ?_
 refine p_as rfl rfl (o_keep (.c 0 rfl (.c 1 rfl (.c 2 rfl (.c 6 rfl (.c 7 rfl .n))))) (r_sr ?_))
 refine p_bsl Tryz.underlying22 (.ofC tc_9) zr_9 (.c rfl rfl rfl (.c rfl rfl rfl (.c rfl rfl rfl (.c rfl rfl rfl (.c rfl rfl rfl (.c rfl rfl rfl (.c rfl rfl rfl (.c rfl rfl rfl (.c rfl rfl rfl .n))))))))) (rows := w9.map rS) rfl rfl rfl rfl fun b12 hr12 => ?_
 refine p_mv rfl rfl ?_
 refine p_callv cf_34 (.c rfl (.c rfl .n)) rfl (str_Index _ _ _ w9 w (Rd.ent hr12 (by repeat (first | exact Ent.rfl | exact Ent.one Ent.h | exact Ent.one (SelS.ent) | exact Ent.nil | exact Ent.left | refine Ent.dropR ?_))) (by decide)) ?_
 refine p_as rfl rfl (o_keep (.c 0 rfl (.c 1 rfl (.c 2 rfl (.c 6 rfl (.c 7 rfl (.c 8 rfl .n)))))) (r_seq (r_block (r_sr (p_mv rfl rfl (p_gtr rfl rfl rfl (p_mv rfl rfl ?_)))))))
 refine l_op (x_p (pv_mv (.s rfl rfl rfl) rfl rfl (by first | exact fun _ => rfl | exact id | exact fun h => (Bool.and_eq_true_iff.1 h).1 | simp_all)) rfl rfl (l_op (x_p (pv_lens (Rd.len hv) ⟨_, Tryz.underlying59⟩ (.s rfl rfl rfl) rfl rfl rfl rfl (by first | exact fun _ => rfl | exact id | exact fun h => (Bool.and_eq_true_iff.1 h).1 | simp_all)) rfl rfl ?_)))
 refine l_op (x_p (pv_eql (.s rfl rfl rfl) rfl rfl rfl (by refine fun h => ⟨?_, ?_⟩ <;> first | rfl | exact h | exact (Bool.and_eq_true_iff.1 h).1 | simp_all)) rfl rfl ?_)
 refine l_op (x_p (pv_and (.n rfl) rfl rfl rfl (fun _ => ⟨rfl, fun hc => by first | rfl | (rw [hc]; rfl) | simp_all⟩)) rfl rfl ?_)
 refine p_as rfl rfl (o_keep (.c 0 rfl (.c 1 rfl (.c 2 rfl (.c 6 rfl (.c 7 rfl (.c 8 rfl (.c 15 rfl .n))))))) (r_cond _ rfl (fun h1 => ?_) (fun h1 => ?_)))
 ·skip
  have hc1 : 0 < idxI w8 (fun x => decide (x = w)) ∧ l.length = 1 := by simp at h1; omega
  obtain ⟨x, hx⟩ := getlt (l := l) (i := 0) (by omega)
  have hk := stepK_1 hc1.1 hc1.2
  have hx0 : l.getD 0 0 = x := by rw [List.getD_eq_getElem?_getD, hx]; rfl
  rw [hx0] at hk
  refine r_plan (_) ([townP tb t]) mo (.c 0 rfl (.c 2 rfl (.c 6 rfl (.c 7 rfl .n)))) (SelX.ent) ?_
  refine qp 0 [.k 0] rfl rfl rfl rfl (by kernel_rfl) rfl (u_mv rfl rfl rfl) (qp 1 [.k 0] rfl rfl rfl rfl (by kernel_rfl) rfl (u_mv rfl rfl rfl) (qp 2 [.o 1] rfl rfl rfl rfl (by kernel_rfl) rfl (u_nil rfl rfl rfl) (qp 3 [.o 2] rfl rfl rfl rfl (by kernel_rfl) rfl (u_fa fa_42_1 rfl rfl rfl) ?_)))
  refine qr 4 [.o 3] rfl rfl rfl rfl (by kernel_rfl) rfl (fun He => rv_ldc tc_35 (bd_cell (SelX.ent (X := bdP b tb u))) (.n rfl) rfl rfl (fun _ => rfl)) ?_
  refine qp 5 [.k 7] rfl rfl rfl rfl (by kernel_rfl) rfl (u_mv rfl rfl rfl) (qp 6 [.k 2] rfl rfl rfl rfl (by kernel_rfl) rfl (u_mv rfl rfl rfl) (qp 7 [.o 6] rfl rfl rfl rfl (by kernel_rfl) rfl (pv_idx Tryz.underlying59 (.ofC tc_3) hv (fun hg => ⟨rfl, (mapget hx)⟩) (.n rfl) rfl rfl rfl (fun _ => ⟨rfl, rfl⟩)) ?_))
  refine qr 8 [.o 7] rfl rfl rfl rfl (by kernel_rfl) rfl (fun He => rv_ldat (j := 0) tc_3 (Rd.ent hv (by repeat (first | exact Ent.rfl | exact Ent.one Ent.h | exact Ent.one (SelS.ent) | exact Ent.nil | exact Ent.left | refine Ent.dropR ?_ | refine Ent.tr Ent.skip ?_))) (fun hg => (mapget hx)) (.n rfl) rfl rfl (fun _ => rfl) rfl (fun _ => rfl)) ?_
  refine qp 9 [.o 5, .o 8] rfl rfl rfl rfl (by kernel_rfl) rfl (pv_build zr_87 pl_87 (.n rfl) rfl (.c rfl (fun _ => rfl) rfl rfl rfl (by repeat constructor) (.c rfl (fun _ => rfl) rfl rfl rfl (by repeat constructor) .n))) ?_
  refine qx_callc (ex := [0]) (i := 10) [.o 4, .o 9] (by kernel_rfl) (by kernel_rfl) rfl rfl rfl (by kernel_rfl) (by kernel_rfl) (by kernel_rfl) (by kernel_rfl) ⟨_, .n rfl, rfl⟩ (exOne (l := [.k 0]) rfl rfl (by kernel_rfl) rfl (by kernel_rfl) rfl (fun He => PV.rq (u_mv rfl rfl rfl))) cf_36 rfl (.c rfl (.c rfl .n)) (town_StepN _ tb t hT (idxI w8 (fun x => decide (x = w))) x) ?_
  refine qb_callc (i := 11) [.o 0, .o 10] (by kernel_rfl) (by kernel_rfl) rfl rfl rfl rfl (by kernel_rfl) (by kernel_rfl) (by kernel_rfl) ⟨_, .n rfl, rfl⟩ cf_35 rfl (.c rfl (.c rfl .n)) (desk_code _ L b tb u (stepT t ⟨idxI w8 (fun x => decide (x = w)), x, []⟩).2 (step_i64 t _) (by omega)) ?_
  refine qm_n (by kernel_rfl) (by kernel_rfl) (by kernel_rfl) (by kernel_rfl) (.c 6 rfl .n) ?_
  refine r_end (r_sr (p_as rfl rfl (o_keep (.c 6 rfl .n) ?_)))
  refine r_retv hF rfl (.c (.t rfl) .n) ?_ ?_
  ·rw [hk]; dsimp only [tellO, tellS]; repeat first|exact eR|refine eB ?_|refine eS ?_|refine eN ?_|refine eX ?_|refine eD ?_
  ·rw [hk]; rfl
 ·skip
  have hc1 : ¬ (0 < idxI w8 (fun x => decide (x = w)) ∧ l.length = 1) := fun hh => by simp [hh.1, hh.2] at h1
  refine r_sr (p_mv rfl rfl (p_gtr rfl rfl rfl (p_mv rfl rfl (l_op (x_p (pv_mv (.s rfl rfl rfl) rfl rfl (by first | exact fun _ => rfl | exact id | exact fun h => (Bool.and_eq_true_iff.1 h).1 | simp_all)) rfl rfl ?_)))))
  refine l_op (x_p (pv_lens (Rd.len hv) ⟨_, Tryz.underlying59⟩ (.s rfl rfl rfl) rfl rfl rfl rfl (by first | exact fun _ => rfl | exact id | exact fun h => (Bool.and_eq_true_iff.1 h).1 | simp_all)) rfl rfl ?_)
  refine l_op (x_p (pv_eql (.s rfl rfl rfl) rfl rfl rfl (by refine fun h => ⟨?_, ?_⟩ <;> first | rfl | exact h | exact (Bool.and_eq_true_iff.1 h).1 | simp_all)) rfl rfl ?_)
  refine l_op (x_p (pv_and (.n rfl) rfl rfl rfl (fun _ => ⟨rfl, fun hc => by first | rfl | (rw [hc]; rfl) | simp_all⟩)) rfl rfl ?_)
  refine p_as rfl rfl (o_keep (.c 0 rfl (.c 1 rfl (.c 2 rfl (.c 6 rfl (.c 8 rfl (.c 35 rfl .n)))))) (r_cond _ rfl (fun h2 => ?_) (fun h2 => ?_)))
  ·skip
   have hc2 : 0 < idxI w9 (fun x => decide (x = w)) ∧ l.length = 0 := by simpa using h2
   have hk := stepK_0 hc2.1 hc2.2
   refine r_region (p_mv rfl rfl (p_mv rfl rfl (p_nil rfl rfl (p_fa fa_42_1 rfl rfl (l_op (x_r (rv_ldc tc_35 (bd_cell (SelX.ent (X := bdP b tb u))) (.n rfl) rfl rfl (fun _ => rfl)) rfl rfl ?_))))))
   refine p_mv rfl rfl ?_
   refine p_build zr_87 pl_87 (.c rfl (fun _ => rfl) rfl rfl rfl (by repeat constructor) .n) rfl ?_
   refine p_callc cf_36 (.c rfl (.c rfl .n)) rfl (town_StepN _ tb t hT (idxI w9 (fun x => decide (x = w))) 0) ?_
   refine p_callc cf_35 (.c rfl (.c rfl .n)) rfl (desk_code _ L b tb u (stepT t ⟨idxI w9 (fun x => decide (x = w)), 0, []⟩).2 (step_i64 t _) (by omega)) ?_
   refine o_keep (.c 6 rfl .n) (r_end (r_sr (p_as rfl rfl (o_keep (.c 6 rfl .n) ?_))))
   refine r_retv hF rfl (.c (.t rfl) .n) ?_ ?_
   ·rw [hk]; dsimp only [tellO, tellS]; repeat first|exact eR|refine eB ?_|refine eS ?_|refine eN ?_|refine eX ?_|refine eD ?_
   ·rw [hk]; rfl
  ·skip
   have hc2 : ¬ (0 < idxI w9 (fun x => decide (x = w)) ∧ l.length = 0) := fun hh => by simp [hh.1, hh.2] at h2
   refine r_sr (p_mv rfl rfl (l_op (x_p (pv_seq (.n rfl) rfl rfl rfl (fun _ => ⟨rfl, rfl⟩)) rfl rfl (p_mv rfl rfl (l_op (x_p (pv_mv (.s rfl rfl rfl) rfl rfl (by first | exact fun _ => rfl | exact id | exact fun h => (Bool.and_eq_true_iff.1 h).1 | simp_all)) rfl rfl ?_))))))
   refine l_op (x_p (pv_lens (Rd.len hv) ⟨_, Tryz.underlying59⟩ (.s rfl rfl rfl) rfl rfl rfl rfl (by first | exact fun _ => rfl | exact id | exact fun h => (Bool.and_eq_true_iff.1 h).1 | simp_all)) rfl rfl ?_)
   refine l_op (x_p (pv_rem (by intro hg; simp at hg; omega) (.s rfl rfl rfl) rfl rfl rfl (by refine fun h => ⟨?_, ?_⟩ <;> first | rfl | exact h | exact (Bool.and_eq_true_iff.1 h).1 | simp_all)) rfl rfl ?_)
   refine l_op (x_p (pv_eql (.s rfl rfl rfl) rfl rfl rfl (by refine fun h => ⟨?_, ?_⟩ <;> first | rfl | exact h | exact (Bool.and_eq_true_iff.1 h).1 | simp_all)) rfl rfl ?_)
   refine l_op (x_p (pv_and (.n rfl) rfl rfl rfl (fun _ => ⟨rfl, fun hc => by first | rfl | (rw [hc]; rfl) | simp_all⟩)) rfl rfl ?_)
   refine p_as rfl rfl (o_keep (.c 0 rfl (.c 2 rfl (.c 6 rfl (.c 52 rfl .n)))) (r_cond _ rfl (fun h3 => ?_) (fun h3 => ?_)))
   ·skip
    have hc3 : w = [98, 101, 103, 105, 110] ∧ l.length % 2 = 0 := by simp at h3; exact ⟨h3.1, by have := h3.2; omega⟩
    have hk : stepK w l = some ⟨1, 0, pairsL l⟩ := by rw [hc3.1]; exact stepK_b hc3.2
    refine r_region (p_mv rfl rfl (p_mv rfl rfl ?_))
    refine p_callc cf_37 (.c rfl (.c rfl .n)) rfl (desk_begin _ L b tb u t hT v l hl hu) ?_
    refine o_keep (.c 6 rfl .n) (r_end (r_sr (p_as rfl rfl (o_keep (.c 6 rfl .n) ?_))))
    refine r_retv hF rfl (.c (.t rfl) .n) ?_ ?_
    ·rw [hk]; dsimp only [tellO, tellS]; repeat first|exact eR|refine eB ?_|refine eS ?_|refine eN ?_|refine eX ?_|refine eD ?_
    ·rw [hk]; rfl
   ·skip
    have hc3 : ¬ (w = [98, 101, 103, 105, 110] ∧ l.length % 2 = 0) := fun hh => by simp [hh.1] at h3; omega
    have hk := stepK_n hc1 hc2 hc3
    refine r_sr (p_as rfl rfl (o_keep (.c 6 rfl .n) ?_))
    refine r_retv hF rfl (.c (.t rfl) .n) ?_ ?_
    ·rw [hk]; dsimp only [tellO]; rw [List.append_nil]; repeat first|exact eR|refine eB ?_|refine eS ?_|refine eN ?_|refine eX ?_|refine eD ?_
    ·rw [hk]; rfl

theorem cnt_at2 (a b : Cnt) {q : Nat} (h : q < 2) {c : Cnt} (hc : c = if q = 0 then a else b) : ((cntL a ++ cntL b).drop (q * 3)).take 3 = cntL c := by subst hc; exact cnt_at a b h
def cntU (s : ShopS) : Nat → List UInt8
  | 0 => []
  | 1 => countS s.c0
  | _ => countS s.c0 ++ countS s.c1
theorem cntU_step (s : ShopS) {q : Nat} (h : q < 2) {c : Cnt} (hc : c = if q = 0 then s.c0 else s.c1) : cntU s (q + 1) = cntU s q ++ countS c := by
  subst hc
  rcases (show q = 0 ∨ q = 1 by omega) with rfl | rfl <;> simp [cntU]
theorem cnt_i64 {s : ShopS} (h : ShInv s) {q : Nat} {c : Cnt} (hc : c = if q = 0 then s.c0 else s.c1) : ∀ n ∈ [c.v, c.o, c.i], i64 n := by
  subst hc
  split
  · exact h.cnt.1
  · exact h.cnt.2

theorem desk_shop (M : Amb) (L : LibOk M) (b tb : Nat) (u : List UInt8) (t : TownS) (hI : DInv t) (n : Int) (hu : u.length ≤ 1000000000) : FnC Tryz.prog M 47 [ptr b, .int .i64 n] (resVal []) [bdP b tb u, townP tb t] [bdP b tb (u ++ shopS t n), townP tb t] := by
 have hlen3 := hI.ti.len
 refine fnc_intro Tryz.func47 rfl Tryz.ntmps47 rfl fun R F hF => ?_
 refine r_cat ?_
 refine r_sel (townP tb t) ?_
 refine r_town fun bb c0 c1 c2 pb => ?_
 refine r_cat ?_
 refine r_seq ?_
 have hsh : (n < 0 ∨ 3 ≤ n) ∨ ∃ i : Nat, n = (i : Int) ∧ i < 3 := by by_cases h : n < 0 ∨ 3 ≤ n; exact .inl h; exact .inr ⟨n.toNat, by omega, by omega⟩
 rcases hsh with hsh | ⟨i, hsi, hi3⟩
 ·skip
  have hs : shopS t n = codeS 1 := by unfold shopS; rw [if_pos hsh]
  refine r_region (p_mv rfl rfl (p_nil rfl rfl (p_fa fa_42_1 rfl rfl (l_op (x_r (rv_ldc tc_35 (bd_cell (SelX.ent (X := bdP b tb u))) (.n rfl) rfl rfl (fun _ => rfl)) rfl rfl ?_)))))
  refine p_mv rfl rfl ?_
  refine p_callv cf_67 (.c rfl (.c rfl .n)) rfl ((town_Clerk_n _ tb bb t.ws c0 c1 c2 pb n hsh).q) ?_
  refine p_as rfl rfl (o_keep (.c 0 rfl (.c 4 rfl .n)) (r_seq (r_sr (p_mv rfl rfl (l_op (x_p (pv_peqn Tryz.underlying50 (.n rfl) rfl rfl rfl (fun _ => ⟨rfl, rfl⟩)) rfl rfl (o_keep (.c 0 rfl (.c 4 rfl (.c 16 rfl .n))) (r_cond _ rfl (fun h1 => ?_) (fun h1 => ?_)))))))))
  ·skip
   refine r_sr (p_mv rfl rfl ?_)
   refine p_callc cf_35 (.c rfl (.c rfl .n)) rfl (desk_code _ L b tb u 1 (by unfold i64; omega) (by omega)) ?_
   refine o_keep (.c 0 rfl (.c 4 rfl .n)) ?_
   refine r_retv hF rfl .n ?_ ?_
   ·rw [hs]; refine Ent.catI ?_; refine Ent.c (SelX.ent) ?_; refine Ent.c (townP_close (t := t) bb c0 c1 c2 pb rfl) ?_; repeat first|exact eR|refine eB ?_|refine eS ?_|refine eN ?_|refine eX ?_|refine eD ?_
   ·rfl
  ·simp at h1
 ·skip
  obtain ⟨k, hk3⟩ := getlt (l := t.ks) (i := i) (by omega)
  obtain ⟨hK, hkn, hkw⟩ := hI.ti.k i k hk3
  have hh1 := hK.sh.holds_le
  have hh2 := hK.sh.over_le
  have hs : shopS t n = cntU k.shop 2 ++ holdU k.shop.holds ++ [101, 110, 100, 10] := by unfold shopS; rw [if_neg (by omega), show n.toNat = i by omega, hk3]; simp [cntU]
  refine r_region (p_mv rfl rfl (p_nil rfl rfl (p_fa fa_42_1 rfl rfl (l_op (x_r (rv_ldc tc_35 (bd_cell (SelX.ent (X := bdP b tb u))) (.n rfl) rfl rfl (fun _ => rfl)) rfl rfl ?_)))))
  refine p_mv rfl rfl ?_
  refine p_callv cf_67 (.c rfl (.c rfl .n)) rfl ((town_Clerk_s _ tb bb t.ws c0 c1 c2 pb n i hsi hi3).q) ?_
  refine p_as rfl rfl (o_keep (.c 0 rfl (.c 4 rfl .n)) (r_seq (r_sr (p_mv rfl rfl (l_op (x_p (pv_peqn Tryz.underlying50 (.n rfl) rfl rfl rfl (fun _ => ⟨rfl, rfl⟩)) rfl rfl (o_keep (.c 0 rfl (.c 4 rfl (.c 16 rfl .n))) (r_cond _ rfl (fun h2 => ?_) (fun h2 => ?_)))))))))
  ·simp at h2
  ·skip
   refine r_skip (r_seq (r_seq ?_))
   refine r_many (P := clerkP) (bs := [c0, c1, c2]) i (cAt_get hi3) hk3 ?_
   refine r_ex fun kb => ?_
   refine r_cat ?_
   refine r_sel (keepP kb k) ?_
   refine r_ex2 fun sb lv => ?_
   refine r_cat ?_
   refine r_rd lv fun hrl => ?_
   refine r_region (p_mv rfl rfl (p_nil rfl rfl (p_fa fa_77_0 rfl rfl (p_ldc tc_74 rfl (by rfl) rfl ?_))))
   refine p_nil rfl rfl (p_fa fa_102_0 rfl rfl (p_ldc tc_98 rfl (by rfl) rfl ?_))
   refine p_callv cf_72 (.c rfl .n) rfl ((shop_Counts _ sb k.shop).q) ?_
   refine p_mv rfl rfl (o_keep (.c 0 rfl (.c 4 rfl (.c 26 rfl (.c 27 rfl .n)))) (r_block ?_))
   refine r_loop_2 (fun (q : Nat) (u1 : List UInt8) => [(27, true, .int .i64 (q : Int))]) (.c 0 rfl (.c 4 rfl (.c 26 rfl .n))) (fun (q : Nat) (u1 : List UInt8) => bdP b tb u1 :: restP clerkP [c0, c1, c2] t.ks i :: postP pb t.post :: brokP bb t.b :: blk tb (tnC bb t.ws c0 c1 c2 pb) 53 :: blk (cAt c0 c1 c2 i) [ptr kb, .int .i64 k.no] 77 :: blk kb (kpC k sb lv) 102 :: sl lv 184 5 (k.l.map rR) :: shopP sb k.shop :: R) (fun (q : Nat) (u1 : List UInt8) => q ≤ 2 ∧ u1 = u ++ cntU k.shop q ∧ u1.length ≤ u.length + 100 * q) (fun (q : Nat) (u1 : List UInt8) => 2 - q) (0) (u) ?_ (.c 27 rfl .n) ?_ (fun q u1 hI => ?_)
   ·exact ⟨Nat.zero_le _, by simp [cntU], by omega⟩
   ·repeat first|exact eR|refine eB ?_|refine eS ?_|refine eN ?_|refine eX ?_|refine eD ?_
   ·skip
    obtain ⟨hq0, hU, hUl⟩ := hI
    refine r_sr (p_lss rfl rfl rfl (o_keep (.c 0 rfl (.c 4 rfl (.c 26 rfl (.c 27 rfl (.c 28 rfl .n))))) (r_seq (r_cond _ rfl (fun h3 => ?_) (fun h3 => ?_)))))
    ·skip
     have hq2 : q < 2 := by have := of_decide_eq_true h3; omega
     obtain ⟨cq, hcq⟩ : ∃ c : Cnt, c = if q = 0 then k.shop.c0 else k.shop.c1 := ⟨_, rfl⟩
     have hcr := cnt_i64 hK.sh hcq
     have hcl : (numsL [cq.v, cq.o, cq.i]).length ≤ 66 := numsL_len hcr
     refine r_skip (r_seq (r_block (r_sr (l_op (x_p (pv_index (i := q) Tryz.underlying118 ta_117 (fun hg => ⟨rfl, hq2⟩) (.n rfl) rfl rfl rfl (fun _ => ⟨rfl, rfl⟩) (fun hg => cnt_at2 _ _ hq2 hcq)) rfl rfl (p_alloc zr_117 rfl fun b6 => ?_))))))
     refine p_store (.ofA ta_117) rfl rfl rfl (by first | rfl | exact rfl) (by first | rfl | exact rfl) (Ins.whole (by first | rfl | (simp only [List.length_map, List.length_cons, List.length_nil]; omega) | (simp [*]; done) | (simp [*]; rfl))) ?_
     refine o_keep (.c 0 rfl (.c 4 rfl (.c 6 rfl (.c 26 rfl (.c 27 rfl .n))))) (r_region (p_mv rfl rfl (p_fa fa_117_0 rfl rfl (p_ldc tc_3 rfl (by rfl) rfl ?_))))
     refine p_fa fa_117_1 rfl rfl (p_ldc tc_3 rfl (by rfl) rfl ?_)
     refine p_fa fa_117_2 rfl rfl (p_ldc tc_3 rfl (by rfl) rfl ?_)
     refine p_bsl Tryz.underlying59 (.ofC tc_3) zr_3 (.c rfl rfl rfl (.c rfl rfl rfl (.c rfl rfl rfl .n))) (rows := ([cq.v, cq.o, cq.i] : List Int).map rI) rfl rfl rfl rfl fun b37 hr37 => ?_
     refine p_callv cf_40 (.c rfl .n) rfl (desk_nums _ _ L _ [cq.v, cq.o, cq.i] (Rd.ent hr37 (by repeat (first | exact Ent.rfl | exact Ent.one Ent.h | exact Ent.one (SelS.ent) | exact Ent.nil | exact Ent.left | refine Ent.dropR ?_))) (by simp) hcr) ?_
     refine l_op (x_p (pv_sadd (fun _ => by (try simp only [List.length_append, List.length_cons, List.length_nil]); omega) (.n rfl) rfl rfl rfl (fun _ => ⟨rfl, rfl⟩)) rfl rfl ?_)
     refine p_bsl Tryz.underlying22 (.ofC tc_9) zr_9 (.c rfl rfl rfl .n) (rows := ([[99, 111, 117, 110, 116] ++ numsL [cq.v, cq.o, cq.i]] : List (List UInt8)).map rS) rfl rfl rfl rfl fun b40 hr40 => ?_
     refine p_callc cf_22 (.c rfl (.c rfl .n)) rfl (desk_say _ b tb u1 _ [[99, 111, 117, 110, 116] ++ numsL [cq.v, cq.o, cq.i]] ([99, 111, 117, 110, 116] ++ numsL [cq.v, cq.o, cq.i]) (join1 _) (by simp) (by simp; omega)) ?_
     refine o_keep (.c 0 rfl (.c 4 rfl (.c 26 rfl (.c 27 rfl .n)))) (r_end (r_region (p_add rfl rfl (by omega) rfl (p_mv rfl rfl (o_keep (.c 0 rfl (.c 4 rfl (.c 26 rfl (.c 27 rfl .n)))) ?_)))))
     refine r_back_2 (q + 1) (u1 ++ ([99, 111, 117, 110, 116] ++ numsL [cq.v, cq.o, cq.i] ++ [10])) ?_ ?_ (Keep.app (.c 27 rfl .n) (.c 0 rfl (.c 4 rfl (.c 26 rfl .n)))) ?_
     ·exact ⟨by omega, by rw [cntU_step k.shop hq2 hcq, hU]; simp only [countS, listS, List.append_assoc], by simp; omega⟩
     ·omega
     ·repeat first|exact eR|refine eB ?_|refine eS ?_|refine eN ?_|refine eX ?_|refine eD ?_
    ·skip
     have hq2 : q = 2 := by have := of_decide_eq_false h3; omega
     subst hq2
     refine r_exit rfl (r_seq (r_sr (p_mv rfl rfl (p_nil rfl rfl (p_fa fa_77_0 rfl rfl (p_ldc tc_74 rfl (by rfl) rfl ?_))))))
     refine p_nil rfl rfl (p_fa fa_102_0 rfl rfl (p_ldc tc_98 rfl (by rfl) rfl ?_))
     refine p_calle cf_81 (.c rfl .n) rfl (shop_Holds _ sb k.shop (by omega) (by omega)) fun hv => ?_
     refine o_cat ?_
     refine o_rd hv fun hrh => ?_
     refine l_op (x_p (pv_lens (Rd.len hrh) ⟨_, Tryz.underlying133⟩ (.n rfl) rfl rfl rfl rfl (fun _ => rfl)) rfl rfl (p_mv rfl rfl (o_keep (.c 0 rfl (.c 50 rfl (.c 51 rfl (.c 52 rfl .n)))) (r_block ?_))))
     refine r_loop_2 (fun (j : Nat) (u2 : List UInt8) => [(52, true, .int .i64 (j : Int))]) (.c 0 rfl (.c 50 rfl (.c 51 rfl .n))) (fun (j : Nat) (u2 : List UInt8) => bdP b tb u2 :: sl hv 136 3 (k.shop.holds.map rH) :: restP clerkP [c0, c1, c2] t.ks i :: postP pb t.post :: brokP bb t.b :: blk tb (tnC bb t.ws c0 c1 c2 pb) 53 :: blk (cAt c0 c1 c2 i) [ptr kb, .int .i64 k.no] 77 :: blk kb (kpC k sb lv) 102 :: sl lv 184 5 (k.l.map rR) :: shopP sb k.shop :: R) (fun (j : Nat) (u2 : List UInt8) => j ≤ k.shop.holds.length ∧ u2 = u1 ++ holdU (k.shop.holds.take j) ∧ u2.length ≤ u1.length + 100 * j) (fun (j : Nat) (u2 : List UInt8) => k.shop.holds.length - j) (0) (u1) ?_ (.c 52 rfl .n) ?_ (fun j u2 hI => ?_)
     ·exact ⟨Nat.zero_le _, by simp [holdU], by omega⟩
     ·repeat first|exact eR|refine eB ?_|refine eS ?_|refine eN ?_|refine eX ?_|refine eD ?_
     ·skip
      obtain ⟨hj0, hV, hVl⟩ := hI
      refine r_sr (p_lss rfl rfl rfl (o_keep (.c 0 rfl (.c 50 rfl (.c 51 rfl (.c 52 rfl (.c 53 rfl .n))))) (r_seq (r_cond _ rfl (fun h4 => ?_) (fun h4 => ?_)))))
      ·skip
       obtain ⟨z, hz⟩ := getlt (l := k.shop.holds) (i := j) (by have := of_decide_eq_true h4; omega)
       have hjl := (List.getElem?_eq_some_iff.1 hz).1
       have hcr := hK.sh.hold (List.mem_of_getElem? hz)
       have hcl : (numsL [z.deal, z.ctr, z.dl]).length ≤ 66 := numsL_len hcr
       refine r_skip (r_seq (r_block (r_sr (p_idx Tryz.underlying133 (.ofA ta_136) hrh rfl (mapget hz) rfl rfl rfl ?_))))
       refine p_ldats 0 ta_136 (Rd.ent hrh (by repeat (first | exact Ent.rfl | exact Ent.one Ent.h | exact Ent.one (SelS.ent) | exact Ent.nil | exact Ent.left | refine Ent.dropR ?_ | refine Ent.tr Ent.skip ?_))) (mapget hz) rfl rfl (.s (.s (.s .z))) rfl ?_
       refine p_alloc zr_136 rfl fun b8 => ?_
       refine p_store (.ofA ta_136) rfl rfl rfl (by first | rfl | exact rfl) (by first | rfl | exact rfl) (Ins.whole (by first | rfl | (simp only [List.length_map, List.length_cons, List.length_nil]; omega) | (simp [*]; done) | (simp [*]; rfl))) ?_
       refine o_keep (.c 0 rfl (.c 8 rfl (.c 50 rfl (.c 51 rfl (.c 52 rfl .n))))) (r_region (p_mv rfl rfl (p_fa fa_136_0 rfl rfl (p_ldc tc_3 rfl (by rfl) rfl ?_))))
       refine p_fa fa_136_1 rfl rfl (p_ldc tc_3 rfl (by rfl) rfl ?_)
       refine p_fa fa_136_2 rfl rfl (p_ldc tc_3 rfl (by rfl) rfl ?_)
       refine p_bsl Tryz.underlying59 (.ofC tc_3) zr_3 (.c rfl rfl rfl (.c rfl rfl rfl (.c rfl rfl rfl .n))) (rows := ([z.deal, z.ctr, z.dl] : List Int).map rI) rfl rfl rfl rfl fun b63 hr63 => ?_
       refine p_callv cf_40 (.c rfl .n) rfl (desk_nums _ _ L _ [z.deal, z.ctr, z.dl] (Rd.ent hr63 (by repeat (first | exact Ent.rfl | exact Ent.one Ent.h | exact Ent.one (SelS.ent) | exact Ent.nil | exact Ent.left | refine Ent.dropR ?_))) (by simp) hcr) ?_
       refine l_op (x_p (pv_sadd (fun _ => by (try simp only [List.length_append, List.length_cons, List.length_nil]); omega) (.n rfl) rfl rfl rfl (fun _ => ⟨rfl, rfl⟩)) rfl rfl ?_)
       refine p_bsl Tryz.underlying22 (.ofC tc_9) zr_9 (.c rfl rfl rfl .n) (rows := ([[104, 111, 108, 100] ++ numsL [z.deal, z.ctr, z.dl]] : List (List UInt8)).map rS) rfl rfl rfl rfl fun b66 hr66 => ?_
       refine p_callc cf_22 (.c rfl (.c rfl .n)) rfl (desk_say _ b tb u2 _ [[104, 111, 108, 100] ++ numsL [z.deal, z.ctr, z.dl]] ([104, 111, 108, 100] ++ numsL [z.deal, z.ctr, z.dl]) (join1 _) (by simp) (by simp; omega)) ?_
       refine o_keep (.c 0 rfl (.c 50 rfl (.c 51 rfl (.c 52 rfl .n)))) (r_end (r_region (p_add rfl rfl (by omega) rfl (p_mv rfl rfl (o_keep (.c 0 rfl (.c 50 rfl (.c 51 rfl (.c 52 rfl .n)))) ?_)))))
       refine r_back_2 (j + 1) (u2 ++ ([104, 111, 108, 100] ++ numsL [z.deal, z.ctr, z.dl] ++ [10])) ?_ ?_ (Keep.app (.c 52 rfl .n) (.c 0 rfl (.c 50 rfl (.c 51 rfl .n)))) ?_
       ·exact ⟨by omega, by rw [holdU_take hz, hV]; simp only [listS, List.append_assoc], by simp; omega⟩
       ·omega
       ·repeat first|exact eR|refine eB ?_|refine eS ?_|refine eN ?_|refine eX ?_|refine eD ?_
      ·skip
       have hjl : k.shop.holds.length ≤ j := by have := of_decide_eq_false h4; omega
       rw [List.take_of_length_le hjl] at hV
       refine r_exit rfl (r_region (p_mv rfl rfl ?_))
       refine p_bsl Tryz.underlying22 (.ofC tc_9) zr_9 (.c rfl rfl rfl .n) (rows := ([[101, 110, 100]] : List (List UInt8)).map rS) rfl rfl rfl rfl fun b70 hr70 => ?_
       refine p_callc cf_22 (.c rfl (.c rfl .n)) rfl (desk_say _ b tb u2 _ [[101, 110, 100]] ([101, 110, 100]) (join1 _) (by simp) (by simp; omega)) ?_
       refine o_keep (.n) ?_
       refine r_fallc hF rfl ?_
       ·rw [show u ++ shopS t n = u2 ++ ([101, 110, 100] ++ [10]) by rw [hs, hV, hU]; simp only [List.append_assoc]; rfl]; refine Ent.catI ?_; refine Ent.c (SelX.ent) ?_; refine Ent.tr (keepP_close (b := kb) (k := k) sb lv rfl rfl) ?_; refine Ent.tr (clerkP_close (b := cAt c0 c1 c2 i) (k := k) kb rfl) ?_; refine Ent.tr (Ent.mono (SelX.ent (X := restP clerkP [c0, c1, c2] t.ks i))) ?_; refine Ent.tr (many_back (cAt_get hi3) hk3) ?_; refine Ent.c (townP_close (t := t) bb c0 c1 c2 pb rfl) ?_; repeat first|exact eR|refine eB ?_|refine eS ?_|refine eN ?_|refine eX ?_|refine eD ?_

end Go.Proofs.YtmakdilmibjpbabGreatDoor
