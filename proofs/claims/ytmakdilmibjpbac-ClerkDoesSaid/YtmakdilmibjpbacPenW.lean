/- The walks of PenW: written by a program of ours (gen.py) over the engine. -/
import Derived.Test.YtmakdilmibjpbacPlain
import Derived.Test.YtmakdilmibjpbacFacts
import Derived.Test.YtmakdilmibjpbacBoothN
import Derived.Test.YtmakdilmibjpbacKeepW2
namespace Go.Proofs.Ytmakdilmibjpbac
open Go Go.RowKit
set_option linter.unusedVariables false
set_option linter.unusedSimpArgs false
set_option maxRecDepth 20000

theorem recF_1 {r : Rec} (h : r.kind = 1) : recF r = if r.done = true then 2 else 0 := by
  unfold recF; cases hd : r.done <;> simp [h, hd]
theorem recF_2 {r : Rec} (h : r.kind = 2) : recF r = if r.ctr ≠ 0 ∨ r.dl ≠ 0 then 2 else 0 := by
  unfold recF; by_cases h1 : r.ctr ≠ 0 ∨ r.dl ≠ 0 <;> simp [h, h1]
theorem recF_3 {r : Rec} (h : r.kind ≠ 1) (h2 : r.kind ≠ 2) : recF r = 10 := by
  unfold recF; simp [h, h2]
def boNew (o : Option ShopS) (x : Nat) : Value := match o with | none => .pointer Option.none | some _ => ptr x
def pnNewP (o : Option ShopS) (no : Int) (ws : List Int) (x : Nat) : List HP := match o with | none => [] | some s => [penP x ⟨no, ws, s, []⟩]

theorem ref_RecordFault (M : Amb) (H : List HP) (r : Rec) : FnV Try.prog M H 93 [.agg (rR r).toArray] (.int .i64 (recF r)) := by
  refine fn_intro Try.func93 rfl Try.ntmps93 rfl fun F hF => ?_
  refine r_seq ?_
  refine r_region ?_
  refine p_box rfl rfl rfl fun b1 => ?_
  refine p_as rfl rfl ?_
  refine o_keep (.c 1 rfl (.c 2 rfl .n)) ?_
  refine r_seq ?_
  refine r_seq ?_
  refine r_region ?_
  refine p_fa fa_101_0 rfl rfl ?_
  refine p_ldc tc_3 rfl (by rfl) rfl ?_
  refine p_eql rfl rfl rfl ?_
  refine o_keep (.c 1 rfl (.c 2 rfl (.c 5 rfl .n))) ?_
  refine r_cond _ rfl (fun h1 => ?_) (fun h1 => ?_)
  · skip
    have hk := recF_1 (r := r) (of_decide_eq_true h1)
    refine r_seq ?_
    refine r_seq ?_
    refine r_region ?_
    refine p_fa fa_101_4 rfl rfl ?_
    refine p_ldc tc_4 rfl (by rfl) rfl ?_
    refine o_keep (.c 1 rfl (.c 2 rfl (.c 7 rfl .n))) ?_
    refine r_cond _ rfl (fun h2 => ?_) (fun h2 => ?_)
    · skip
      have hd : r.done = true := h2
      rw [if_pos hd] at hk
      refine r_seq ?_
      refine r_region ?_
      refine p_as rfl rfl ?_
      refine o_keep (.c 1 rfl (.c 2 rfl .n)) ?_
      refine r_retv hF rfl (.c (.t rfl) .n) ?_ ?_
      · first | exact Ent.rfl | (repeat (first | exact Ent.rfl | refine Ent.c (SelB.ent) ?_ | refine Ent.c (SelS.ent) ?_ | refine Ent.cN ?_ | refine Ent.c (SelX.ent) ?_ | refine Ent.dropR ?_))
      · exact int_eq hk.symm
    · skip
      have hd : r.done = false := h2
      rw [if_neg (by simp [hd])] at hk
      refine r_skip ?_
      refine r_seq ?_
      refine r_region ?_
      refine p_as rfl rfl ?_
      refine o_keep (.c 1 rfl (.c 2 rfl .n)) ?_
      refine r_retv hF rfl (.c (.t rfl) .n) ?_ ?_
      · first | exact Ent.rfl | (repeat (first | exact Ent.rfl | refine Ent.c (SelB.ent) ?_ | refine Ent.c (SelS.ent) ?_ | refine Ent.cN ?_ | refine Ent.c (SelX.ent) ?_ | refine Ent.dropR ?_))
      · exact int_eq hk.symm
  · skip
    have hk1 : r.kind ≠ 1 := of_decide_eq_false h1
    refine r_skip ?_
    refine r_seq ?_
    refine r_seq ?_
    refine r_region ?_
    refine p_fa fa_101_0 rfl rfl ?_
    refine p_ldc tc_3 rfl (by rfl) rfl ?_
    refine p_eql rfl rfl rfl ?_
    refine o_keep (.c 1 rfl (.c 2 rfl (.c 10 rfl .n))) ?_
    refine r_cond _ rfl (fun h3 => ?_) (fun h3 => ?_)
    · skip
      have hk := recF_2 (r := r) (of_decide_eq_true h3)
      refine r_seq ?_
      refine r_seq ?_
      refine r_region ?_
      refine p_fa fa_101_2 rfl rfl ?_
      refine p_ldc tc_3 rfl (by rfl) rfl ?_
      refine p_neq rfl rfl rfl ?_
      refine p_mv rfl rfl ?_
      refine l_op (x_p (pv_fa fa_101_3 (.s rfl rfl rfl) rfl rfl (by first | exact fun _ => rfl | exact id | exact fun h => (Bool.and_eq_true_iff.1 h).1 | simp_all)) rfl rfl ?_)
      refine l_op (x_r (q_ldc tc_3 (.s rfl rfl rfl) rfl rfl (by first | exact fun _ => rfl | exact id | exact fun h => (Bool.and_eq_true_iff.1 h).1 | simp_all) (by rfl)) rfl rfl ?_)
      refine l_op (x_p (pv_neq (.s rfl rfl rfl) rfl rfl rfl (by refine fun h => ⟨?_, ?_⟩ <;> first | rfl | exact h | exact (Bool.and_eq_true_iff.1 h).1 | simp_all)) rfl rfl ?_)
      refine l_op (x_p (pv_or (.n rfl) rfl rfl rfl (fun _ => ⟨rfl, fun hc => by first | rfl | (rw [hc]; rfl) | simp_all⟩)) rfl rfl ?_)
      refine o_keep (.c 2 rfl (.c 18 rfl .n)) ?_
      refine r_cond _ rfl (fun h4 => ?_) (fun h4 => ?_)
      · skip
        rw [if_pos (by simpa using h4)] at hk
        refine r_seq ?_
        refine r_region ?_
        refine p_as rfl rfl ?_
        refine o_keep (.c 2 rfl .n) ?_
        refine r_retv hF rfl (.c (.t rfl) .n) ?_ ?_
        · first | exact Ent.rfl | (repeat (first | exact Ent.rfl | refine Ent.c (SelB.ent) ?_ | refine Ent.c (SelS.ent) ?_ | refine Ent.cN ?_ | refine Ent.c (SelX.ent) ?_ | refine Ent.dropR ?_))
        · exact int_eq hk.symm
      · skip
        rw [if_neg (by simpa using h4)] at hk
        refine r_skip ?_
        refine r_seq ?_
        refine r_region ?_
        refine p_as rfl rfl ?_
        refine o_keep (.c 2 rfl .n) ?_
        refine r_retv hF rfl (.c (.t rfl) .n) ?_ ?_
        · first | exact Ent.rfl | (repeat (first | exact Ent.rfl | refine Ent.c (SelB.ent) ?_ | refine Ent.c (SelS.ent) ?_ | refine Ent.cN ?_ | refine Ent.c (SelX.ent) ?_ | refine Ent.dropR ?_))
        · exact int_eq hk.symm
    · skip
      have hk := recF_3 hk1 (of_decide_eq_false h3)
      refine r_skip ?_
      refine r_seq ?_
      refine r_region ?_
      refine p_as rfl rfl ?_
      refine o_keep (.c 2 rfl .n) ?_
      refine r_retv hF rfl (.c (.t rfl) .n) ?_ ?_
      · first | exact Ent.rfl | (repeat (first | exact Ent.rfl | refine Ent.c (SelB.ent) ?_ | refine Ent.c (SelS.ent) ?_ | refine Ent.cN ?_ | refine Ent.c (SelX.ent) ?_ | refine Ent.dropR ?_))
      · exact int_eq hk.symm

theorem booth_Do (M : Amb) (b : Nat) (s : ShopS) (hI : ShInv s) (r : Rec) : FnC Try.prog M 80 [ptr b, .agg (rR r).toArray] (.int .i64 (doC s r).2) [boothP b s] [boothP b (doC s r).1] := by
  refine fnc_intro Try.func80 rfl Try.ntmps80 rfl fun R F hF => ?_
  refine r_cat ?_
  refine r_seq ?_
  refine r_region ?_
  refine p_box rfl rfl rfl fun b3 => ?_
  refine p_as rfl rfl ?_
  refine o_keep (.c 0 rfl (.c 3 rfl (.c 4 rfl .n))) ?_
  refine r_seq ?_
  refine r_seq ?_
  refine r_region ?_
  refine p_lda ta_101 rfl (by exact (Tk.all rfl)) rfl ?_
  refine p_callv cf_93 (.c rfl .n) rfl (ref_RecordFault _ _ r) ?_
  refine p_as rfl rfl ?_
  refine o_keep (.c 0 rfl (.c 3 rfl (.c 4 rfl (.c 5 rfl .n)))) ?_
  refine r_seq ?_
  refine r_region ?_
  refine p_mv rfl rfl ?_
  refine p_neq rfl rfl rfl ?_
  refine o_keep (.c 0 rfl (.c 3 rfl (.c 4 rfl (.c 5 rfl (.c 9 rfl .n))))) ?_
  refine r_cond _ rfl (fun h1 => ?_) (fun h1 => ?_)
  · skip
    have hd : doC s r = (s, recF r) := by unfold doC; rw [if_pos (by simpa using h1)]
    refine r_seq ?_
    refine r_region ?_
    refine p_mv rfl rfl ?_
    refine p_as rfl rfl ?_
    refine o_keep (.c 0 rfl (.c 3 rfl (.c 4 rfl .n))) ?_
    refine r_retv hF rfl (.c (.t rfl) .n) ?_ ?_
    · refine Ent.catI ?_; rw [hd]; refine Ent.c (SelX.ent) ?_; first | exact Ent.rfl | (repeat (first | exact Ent.rfl | refine Ent.c (SelB.ent) ?_ | refine Ent.c (SelS.ent) ?_ | refine Ent.cN ?_ | refine Ent.c (SelX.ent) ?_ | refine Ent.dropR ?_))
    · rw [hd]; rfl
  · skip
    have h0 : recF r = 0 := by simpa using h1
    have hdc : doC s r = doR s r := by unfold doC; rw [if_neg (by omega)]
    refine r_skip ?_
    refine r_seq ?_
    refine r_seq ?_
    refine r_region ?_
    refine p_fa fa_101_0 rfl rfl ?_
    refine p_ldc tc_3 rfl (by rfl) rfl ?_
    refine p_eql rfl rfl rfl ?_
    refine o_keep (.c 0 rfl (.c 3 rfl (.c 4 rfl (.c 13 rfl .n)))) ?_
    refine r_cond _ rfl (fun h2 => ?_) (fun h2 => ?_)
    · skip
      have hd : doC s r = holdS s r.deal ⟨r.ctr, r.dl⟩ := by rw [hdc]; unfold doR; rw [if_pos (of_decide_eq_true h2)]
      refine r_seq ?_
      refine r_region ?_
      refine p_mv rfl rfl ?_
      refine p_fa fa_101_1 rfl rfl ?_
      refine p_ldc tc_3 rfl (by rfl) rfl ?_
      refine p_fa fa_101_2 rfl rfl ?_
      refine p_ldc tc_3 rfl (by rfl) rfl ?_
      refine p_fa fa_101_3 rfl rfl ?_
      refine p_ldc tc_3 rfl (by rfl) rfl ?_
      refine p_build zr_29 pl_29 (.c rfl (fun _ => rfl) rfl rfl rfl (by repeat constructor) (.c rfl (fun _ => rfl) rfl rfl rfl (by repeat constructor) .n)) rfl ?_
      refine p_callc cf_94 (.c rfl (.c rfl (.c rfl .n))) rfl (booth_Hold _ b s hI r.deal ⟨r.ctr, r.dl⟩) ?_
      refine p_as rfl rfl ?_
      refine o_keep (.c 0 rfl (.c 3 rfl (.c 4 rfl .n))) ?_
      refine r_retv hF rfl (.c (.t rfl) .n) ?_ ?_
      · refine Ent.catI ?_; rw [hd]; refine Ent.c (SelX.ent) ?_; first | exact Ent.rfl | (repeat (first | exact Ent.rfl | refine Ent.c (SelB.ent) ?_ | refine Ent.c (SelS.ent) ?_ | refine Ent.cN ?_ | refine Ent.c (SelX.ent) ?_ | refine Ent.dropR ?_))
      · rw [hd]; rfl
    · skip
      have hn1 : ¬ r.kind = 1 := of_decide_eq_false h2
      have hd : doC s r = endS s r.deal r.done := by rw [hdc]; unfold doR; rw [if_neg hn1, if_pos (by rcases recF_ok h0 with h | h; exact absurd h.1 hn1; exact h.1)]
      refine r_skip ?_
      refine r_seq ?_
      refine r_region ?_
      refine p_mv rfl rfl ?_
      refine p_fa fa_101_1 rfl rfl ?_
      refine p_ldc tc_3 rfl (by rfl) rfl ?_
      refine p_fa fa_101_4 rfl rfl ?_
      refine p_ldc tc_4 rfl (by rfl) rfl ?_
      refine p_callc cf_95 (.c rfl (.c rfl (.c rfl .n))) rfl (booth_End _ b s hI r.deal r.done) ?_
      refine p_as rfl rfl ?_
      refine o_keep (.c 4 rfl .n) ?_
      refine r_retv hF rfl (.c (.t rfl) .n) ?_ ?_
      · refine Ent.catI ?_; rw [hd]; refine Ent.c (SelX.ent) ?_; first | exact Ent.rfl | (repeat (first | exact Ent.rfl | refine Ent.c (SelB.ent) ?_ | refine Ent.c (SelS.ent) ?_ | refine Ent.cN ?_ | refine Ent.c (SelX.ent) ?_ | refine Ent.dropR ?_))
      · rw [hd]; rfl

theorem pen_New (M : Amb) (no : Int) (ws : List Int) (hws : ws.length = 6) : FnE (α := Nat) Try.prog M 23 [.int .i64 no, .agg (ws.map vI).toArray] [] (fun x => newVal (newS no ws) x) (fun x => pnNewP (newS no ws) no ws x) := by
  refine fne_intro Try.func23 rfl Try.ntmps23 rfl fun R F hF => ?_
  show Run _ _ _ _ _ _ R
  refine r_seq ?_
  refine r_region ?_
  refine p_box rfl rfl rfl fun b3 => ?_
  refine p_as rfl rfl ?_
  refine o_keep (.c 0 rfl (.c 3 rfl (.c 4 rfl .n))) ?_
  refine r_seq ?_
  rcases hn : newS no ws with _ | s
  · skip
    refine r_region ?_
    refine p_mv rfl rfl ?_
    refine p_lda ta_23 rfl (by exact (Tk.all (by first | rfl | assumption | (simp only [List.drop_zero, List.length_map]; assumption) | (simp [*]; done)))) rfl ?_
    refine p_callc cf_54 (.c rfl (.c rfl .n)) rfl (booth_New_none _ no ws hws hn) ?_
    refine p_as rfl rfl ?_
    refine o_keep (.c 4 rfl (.c 5 rfl .n)) ?_
    refine r_seq ?_
    refine r_seq ?_
    refine r_region ?_
    refine p_mv rfl rfl ?_
    refine l_op (x_p (pv_peqn Try.underlying58 (.n rfl) rfl rfl rfl (fun _ => ⟨rfl, rfl⟩)) rfl rfl ?_)
    refine o_keep (.c 4 rfl (.c 5 rfl (.c 10 rfl .n))) ?_
    refine r_cond _ rfl (fun h1 => ?_) (fun h1 => ?_)
    · skip
      refine r_seq ?_
      refine r_region ?_
      refine p_as rfl rfl ?_
      refine o_keep (.c 4 rfl (.c 5 rfl .n)) ?_
      refine r_rete (0) hF rfl (.c (.t rfl) .n) ?_ ?_
      · show Ent _ (pnNewP _ _ _ _ ++ R); rw [hn]; show Ent _ R; first | exact Ent.rfl | (repeat (first | exact Ent.rfl | refine Ent.c (SelB.ent) ?_ | refine Ent.c (SelS.ent) ?_ | refine Ent.cN ?_ | refine Ent.c (SelX.ent) ?_ | refine Ent.dropR ?_))
      · rw [hn]; rfl
    · simp at h1
  · skip
    refine r_region ?_
    refine p_mv rfl rfl ?_
    refine p_lda ta_23 rfl (by exact (Tk.all (by first | rfl | assumption | (simp only [List.drop_zero, List.length_map]; assumption) | (simp [*]; done)))) rfl ?_
    refine p_calle cf_54 (.c rfl (.c rfl .n)) rfl (booth_New_some _ no ws hws hn) fun bb => ?_
    refine o_cat ?_
    refine p_as rfl rfl ?_
    refine o_keep (.c 4 rfl (.c 5 rfl .n)) ?_
    refine r_seq ?_
    refine r_seq ?_
    refine r_region ?_
    refine p_mv rfl rfl ?_
    refine l_op (x_p (pv_peqn Try.underlying58 (.n rfl) rfl rfl rfl (fun _ => ⟨rfl, rfl⟩)) rfl rfl ?_)
    refine o_keep (.c 4 rfl (.c 5 rfl (.c 10 rfl .n))) ?_
    refine r_cond _ rfl (fun h2 => ?_) (fun h2 => ?_)
    · simp at h2
    · skip
      refine r_skip ?_
      refine r_seq ?_
      refine r_region ?_
      refine p_mv rfl rfl ?_
      refine p_build zr_60 pl_60 (.c rfl (fun _ => rfl) rfl rfl rfl (by repeat constructor) .n) rfl ?_
      refine p_box rfl rfl rfl fun b13 => ?_
      refine p_as rfl rfl ?_
      refine o_keep (.c 4 rfl .n) ?_
      refine r_rete (b13) hF rfl (.c (.t rfl) .n) ?_ ?_
      · show Ent _ (pnNewP _ _ _ _ ++ R); rw [hn]; show Ent _ (penP b13 _ :: R); refine Ent.tr (Ent.slN (E := 101) (sz := 5)) ?_; refine Ent.c (penP_close bb (.slice Option.none 0 0) rfl rfl) ?_; first | exact Ent.rfl | (repeat (first | exact Ent.rfl | refine Ent.c (SelB.ent) ?_ | refine Ent.c (SelS.ent) ?_ | refine Ent.cN ?_ | refine Ent.c (SelX.ent) ?_ | refine Ent.dropR ?_))
      · rw [hn]; rfl

theorem pen_Do (M : Amb) (b : Nat) (k : KeepS) (hI : KInv k) (r : Rec) : FnC Try.prog M 55 [ptr b, .agg (rR r).toArray] (.int .i64 (doK k r).2) [penP b k] [penP b (doK k r).1] := by
  have hkl := hI.l_le
  refine fnc_intro Try.func55 rfl Try.ntmps55 rfl fun R F hF => ?_
  refine r_cat ?_
  refine r_ex2 fun bb lv => ?_
  refine r_cat ?_
  refine r_rd lv fun hrl => ?_
  refine r_seq ?_
  refine r_region ?_
  refine p_box rfl rfl rfl fun b3 => ?_
  refine p_as rfl rfl ?_
  refine o_keep (.c 0 rfl (.c 3 rfl (.c 4 rfl .n))) ?_
  refine r_seq ?_
  refine r_plan (_) ([boothP bb k.shop]) mo (.c 0 rfl (.c 3 rfl (.c 4 rfl .n))) (SelX.ent) ?_
  refine qm_q (i := 0) (l := [.k 0]) rfl rfl rfl rfl (by kernel_rfl) rfl (fun He => PV.rq (pv_mv (.n rfl) rfl rfl (fun _ => rfl))) ?_
  refine qm_q (i := 1) (l := [.o 0]) rfl rfl rfl rfl (by kernel_rfl) rfl (fun He => PV.rq (pv_nilp (.n rfl) rfl rfl (fun _ => rfl))) ?_
  refine qm_q (i := 2) (l := [.o 1]) rfl rfl rfl rfl (by kernel_rfl) rfl (fun He => PV.rq (pv_fa fa_60_0 (.n rfl) rfl rfl (fun _ => rfl))) ?_
  refine qm_q (i := 3) (l := [.o 2]) rfl rfl rfl rfl (by kernel_rfl) rfl (fun He => RV.rq (q_ldc tc_58 (.n rfl) rfl rfl (fun _ => rfl) (by rfl))) ?_
  refine qm_q (i := 4) (l := [.k 3]) rfl rfl rfl rfl (by kernel_rfl) rfl (fun He => RV.rq (q_lda ta_101 (.n rfl) rfl rfl (fun _ => rfl) (by exact (Tk.all rfl)))) ?_
  refine qb_callc (i := 5) [.o 3, .o 4] (by kernel_rfl) (by kernel_rfl) rfl rfl rfl rfl (by kernel_rfl) (by kernel_rfl) (by kernel_rfl) ⟨_, .n rfl, rfl⟩ cf_80 rfl (.c rfl (.c rfl .n)) (booth_Do _ bb k.shop hI.sh r) ?_
  refine qm_q (i := 6) (l := [.o 5]) rfl rfl rfl rfl (by kernel_rfl) rfl (fun He => PV.rq (pv_as (.n rfl) rfl rfl (fun _ => rfl))) ?_
  refine qm_n (by kernel_rfl) (by kernel_rfl) (by kernel_rfl) (by kernel_rfl) (.c 0 rfl (.c 3 rfl (.c 4 rfl (.c 5 rfl .n)))) ?_
  refine r_seq ?_
  refine r_seq ?_
  refine r_region ?_
  refine p_mv rfl rfl ?_
  refine p_neq rfl rfl rfl ?_
  refine o_keep (.c 0 rfl (.c 3 rfl (.c 4 rfl (.c 5 rfl (.c 14 rfl .n))))) ?_
  refine r_cond _ rfl (fun h1 => ?_) (fun h1 => ?_)
  · skip
    have hne : (doC k.shop r).2 ≠ 0 := by simpa using h1
    have hd : doK k r = (k, (doC k.shop r).2) := by unfold doK; rw [doC_err hne, if_neg (fun q => hne q.1)]
    refine r_seq ?_
    refine r_region ?_
    refine p_mv rfl rfl ?_
    refine p_as rfl rfl ?_
    refine o_keep (.c 0 rfl (.c 3 rfl (.c 4 rfl .n))) ?_
    refine r_retv hF rfl (.c (.t rfl) .n) ?_ ?_
    · refine Ent.catI ?_; rw [hd, doC_err hne]; refine Ent.c (penP_close bb lv rfl rfl) ?_; first | exact Ent.rfl | (repeat (first | exact Ent.rfl | refine Ent.c (SelB.ent) ?_ | refine Ent.c (SelS.ent) ?_ | refine Ent.cN ?_ | refine Ent.c (SelX.ent) ?_ | refine Ent.dropR ?_))
    · rw [hd]; rfl
  · skip
    have h0 : (doC k.shop r).2 = 0 := by simpa using h1
    refine r_skip ?_
    refine r_seq ?_
    refine r_seq ?_
    refine r_region ?_
    refine p_as rfl rfl ?_
    refine o_keep (.c 0 rfl (.c 3 rfl (.c 4 rfl (.c 6 rfl .n)))) ?_
    refine r_block ?_
    refine r_loop_1 (fun (i : Nat) => [(6, true, .int .i64 (i : Int))]) (.c 0 rfl (.c 3 rfl (.c 4 rfl .n))) (fun (i : Nat) => blk b [ptr bb, lv] 60 :: sl lv 101 5 (k.l.map rR) :: boothP bb (doC k.shop r).1 :: blk b3 (rR r) 101 :: R) (fun (i : Nat) => ∀ j : Nat, j < i → k.l[j]? ≠ some r) (fun (i : Nat) => k.l.length - i) (0) ?_ (.c 6 rfl .n) ?_ (fun i hI => ?_)
    · exact fun j hj => by omega
    · first | exact Ent.rfl | (repeat (first | exact Ent.rfl | refine Ent.c (SelB.ent) ?_ | refine Ent.c (SelS.ent) ?_ | refine Ent.cN ?_ | refine Ent.c (SelX.ent) ?_ | refine Ent.dropR ?_))
    · skip
      have hJ := hI
      refine r_seq ?_
      refine r_seq ?_
      refine r_region ?_
      refine p_mv rfl rfl ?_
      refine p_mv rfl rfl ?_
      refine p_nil rfl rfl ?_
      refine p_fa fa_60_1 rfl rfl ?_
      refine p_ldc tc_42 rfl (by rfl) rfl ?_
      refine l_op (x_p (pv_lens (Rd.len hrl) ⟨_, Try.underlying42⟩ (.n rfl) rfl rfl rfl rfl (fun _ => rfl)) rfl rfl ?_)
      refine p_lss rfl rfl rfl ?_
      refine o_keep (.c 0 rfl (.c 3 rfl (.c 4 rfl (.c 6 rfl (.c 22 rfl .n))))) ?_
      refine r_cond _ rfl (fun h2 => ?_) (fun h2 => ?_)
      · skip
        obtain ⟨y, hy⟩ := getlt (l := k.l) (i := i) (by have := of_decide_eq_true h2; omega)
        have hil := (List.getElem?_eq_some_iff.1 hy).1
        refine r_skip ?_
        refine r_seq ?_
        refine r_block ?_
        refine r_seq ?_
        refine r_plan _ [] mo (.c 0 rfl (.c 3 rfl (.c 4 rfl (.c 6 rfl .n)))) Ent.rfl ?_
        refine qm_q (i := 0) (l := [.k 0]) rfl rfl rfl rfl (by kernel_rfl) rfl (fun He => PV.rq (pv_mv (.n rfl) rfl rfl (fun _ => rfl))) ?_
        refine qm_q (i := 1) (l := [.o 0]) rfl rfl rfl rfl (by kernel_rfl) rfl (fun He => PV.rq (pv_nilp (.n rfl) rfl rfl (fun _ => rfl))) ?_
        refine qm_q (i := 2) (l := [.o 1]) rfl rfl rfl rfl (by kernel_rfl) rfl (fun He => PV.rq (pv_fa fa_60_1 (.n rfl) rfl rfl (fun _ => rfl))) ?_
        refine qm_q (i := 3) (l := [.o 2]) rfl rfl rfl rfl (by kernel_rfl) rfl (fun He => RV.rq (q_ldc tc_42 (.n rfl) rfl rfl (fun _ => rfl) (by rfl))) ?_
        refine qm_q (i := 4) (l := [.k 6]) rfl rfl rfl rfl (by kernel_rfl) rfl (fun He => PV.rq (pv_mv (.n rfl) rfl rfl (fun _ => rfl))) ?_
        refine qm_q (i := 5) (l := [.o 3, .o 4]) rfl rfl rfl rfl (by kernel_rfl) rfl (fun He => PV.rq (pv_idx Try.underlying42 (.ofA ta_101) hrl (fun hg => ⟨rfl, (mapget hy)⟩) (.n rfl) rfl rfl rfl (fun _ => ⟨rfl, rfl⟩))) ?_
        refine qm_q (i := 6) (l := [.o 5]) rfl rfl rfl rfl (by kernel_rfl) rfl (fun He => RV.rq (rv_ldats (j := 0) ta_101 (Rd.ent hrl (by repeat (first | exact Ent.rfl | exact Ent.one Ent.h | exact Ent.one (SelS.ent) | exact Ent.nil | exact Ent.left | refine Ent.dropR ?_ | refine Ent.tr Ent.skip ?_))) (fun hg => (mapget hy)) (.n rfl) rfl rfl (fun _ => rfl) rfl (.s (.s (.s (.s (.s .z))))))) ?_
        refine qm_q (i := 7) (l := [.k 3]) rfl rfl rfl rfl (by kernel_rfl) rfl (fun He => RV.rq (q_lda ta_101 (.n rfl) rfl rfl (fun _ => rfl) (by exact (Tk.all rfl)))) ?_
        refine qm_q (i := 8) (l := [.o 6, .o 7]) rfl rfl rfl rfl (by kernel_rfl) rfl (fun He => PV.rq (pv_aeq (eq_Record) (.n rfl) rfl rfl rfl (fun _ => ⟨rfl, rfl⟩))) ?_
        refine qm_n (by kernel_rfl) (by kernel_rfl) (by kernel_rfl) (by kernel_rfl) (.c 0 rfl (.c 3 rfl (.c 4 rfl (.c 6 rfl (.c 33 rfl .n))))) ?_
        refine r_cond _ rfl (fun h3 => ?_) (fun h3 => ?_)
        · skip
          have hyr : y = r := of_decide_eq_true h3
          have hm : r ∈ k.l := hyr ▸ List.mem_of_getElem? hy
          have hd : doK k r = ({ k with shop := (doC k.shop r).1 }, 0) := by unfold doK; rw [if_neg (fun q => q.2 hm), h0]
          refine r_seq ?_
          refine r_region ?_
          refine p_as rfl rfl ?_
          refine o_keep (.c 0 rfl (.c 3 rfl (.c 4 rfl (.c 6 rfl .n)))) ?_
          refine r_retv hF rfl (.c (.t rfl) .n) ?_ ?_
          · refine Ent.catI ?_; rw [hd]; refine Ent.c (penP_close bb lv rfl rfl) ?_; first | exact Ent.rfl | (repeat (first | exact Ent.rfl | refine Ent.c (SelB.ent) ?_ | refine Ent.c (SelS.ent) ?_ | refine Ent.cN ?_ | refine Ent.c (SelX.ent) ?_ | refine Ent.dropR ?_))
          · rw [hd]; rfl
        · skip
          have hyr : y ≠ r := of_decide_eq_false h3
          refine r_skip ?_
          refine r_end ?_
          refine r_region ?_
          refine p_mv rfl rfl ?_
          refine p_add rfl rfl (by omega) rfl ?_
          refine p_as rfl rfl ?_
          refine o_keep (.c 0 rfl (.c 3 rfl (.c 4 rfl (.c 6 rfl .n)))) ?_
          refine r_back_1 (i + 1) ?_ ?_ (Keep.app (.c 6 rfl .n) (.c 0 rfl (.c 3 rfl (.c 4 rfl .n)))) ?_
          · exact fun j hj => if e : j = i then (by rw [e, hy]; exact fun q => hyr (Option.some.inj q)) else hJ j (by omega)
          · omega
          · first | exact Ent.rfl | (repeat (first | exact Ent.rfl | refine Ent.c (SelB.ent) ?_ | refine Ent.c (SelS.ent) ?_ | refine Ent.cN ?_ | refine Ent.c (SelX.ent) ?_ | refine Ent.dropR ?_))
      · skip
        have hnm : r ∉ k.l := fun hm => by obtain ⟨j, hj, e⟩ := List.mem_iff_getElem.1 hm; exact hJ j (by have := of_decide_eq_false h2; omega) (by rw [List.getElem?_eq_getElem hj, e])
        have hd : doK k r = ({ k with shop := (doC k.shop r).1, l := k.l ++ [r] }, 0) := by unfold doK; rw [if_pos ⟨h0, hnm⟩, h0]
        refine r_exit rfl ?_
        refine r_seq ?_
        refine r_plan (_) ([sl lv 101 5 (k.l.map rR)]) mo (.c 0 rfl (.c 3 rfl (.c 4 rfl .n))) (SelS.ent) ?_
        refine qm_q (i := 0) (l := [.k 0]) rfl rfl rfl rfl (by kernel_rfl) rfl (fun He => PV.rq (pv_mv (.n rfl) rfl rfl (fun _ => rfl))) ?_
        refine qm_q (i := 1) (l := [.k 0]) rfl rfl rfl rfl (by kernel_rfl) rfl (fun He => PV.rq (pv_mv (.n rfl) rfl rfl (fun _ => rfl))) ?_
        refine qm_q (i := 2) (l := [.o 1]) rfl rfl rfl rfl (by kernel_rfl) rfl (fun He => PV.rq (pv_nilp (.n rfl) rfl rfl (fun _ => rfl))) ?_
        refine qm_q (i := 3) (l := [.o 2]) rfl rfl rfl rfl (by kernel_rfl) rfl (fun He => PV.rq (pv_fa fa_60_1 (.n rfl) rfl rfl (fun _ => rfl))) ?_
        refine qm_q (i := 4) (l := [.o 3]) rfl rfl rfl rfl (by kernel_rfl) rfl (fun He => RV.rq (q_ldc tc_42 (.n rfl) rfl rfl (fun _ => rfl) (by rfl))) ?_
        refine qm_q (i := 5) (l := [.k 3]) rfl rfl rfl rfl (by kernel_rfl) rfl (fun He => RV.rq (q_lda ta_101 (.n rfl) rfl rfl (fun _ => rfl) (by exact (Tk.all rfl)))) ?_
        refine qm_bslice1 Try.underlying42 (.ofA ta_101) zr_101 rfl (i := 6) [.o 5] (by kernel_rfl) (by kernel_rfl) rfl rfl rfl rfl (by kernel_rfl) (by kernel_rfl) ⟨_, .n rfl, rfl⟩ rfl rfl rfl rfl rfl rfl fun b40 => ?_
        refine qa_append Try.underlying42 el_101 rfl rfl (i := 7) [.o 4, .o 6] (by kernel_rfl) (by kernel_rfl) rfl rfl rfl rfl (by kernel_rfl) (by kernel_rfl) ⟨_, .n rfl, rfl⟩ rfl rfl rfl (Rd.blit rfl rfl) (by simp; omega) fun v41 => ?_
        refine qm_rd v41 fun hr41 => ?_
        refine qm_q (i := 8) (l := [.o 0]) rfl rfl rfl rfl (by kernel_rfl) rfl (fun He => PV.rq (pv_nilp (.n rfl) rfl rfl (fun _ => rfl))) ?_
        refine qm_q (i := 9) (l := [.o 8]) rfl rfl rfl rfl (by kernel_rfl) rfl (fun He => PV.rq (pv_fa fa_60_1 (.n rfl) rfl rfl (fun _ => rfl))) ?_
        refine qb_store (.ofC tc_42) (i := 10) [.o 9, .o 7] (by kernel_rfl) (by kernel_rfl) rfl rfl rfl (by kernel_rfl) (by kernel_rfl) (by kernel_rfl) ⟨_, .n rfl, rfl⟩ rfl rfl rfl hr41.c1 rfl hr41.o1 (by repeat constructor) ?_
        refine qm_n (by kernel_rfl) (by kernel_rfl) (by kernel_rfl) (by kernel_rfl) (.c 4 rfl .n) ?_
        refine r_seq ?_
        refine r_region ?_
        refine p_as rfl rfl ?_
        refine o_keep (.c 4 rfl .n) ?_
        refine r_retv hF rfl (.c (.t rfl) .n) ?_ ?_
        · refine Ent.catI ?_; rw [hd]; refine Ent.c (penP_close bb v41 rfl (by simp)) ?_; first | exact Ent.rfl | (repeat (first | exact Ent.rfl | refine Ent.c (SelB.ent) ?_ | refine Ent.c (SelS.ent) ?_ | refine Ent.cN ?_ | refine Ent.c (SelX.ent) ?_ | refine Ent.dropR ?_))
        · rw [hd]; rfl

end Go.Proofs.Ytmakdilmibjpbac
