/- The walks of KeepLaws3: written by a program of ours (gen.py) over the engine. -/
import Derived.Test.YtmakdilmibjpbabPlain
import Derived.Test.YtmakdilmibjpbabFacts
import Derived.Test.YtmakdilmibjpbabPenW2
import Derived.Test.YtmakdilmibjpbabKeepLaws2
namespace Go.Proofs.Ytmakdilmibjpbab
open Go Go.RowKit
set_option linter.unusedVariables false
set_option linter.unusedSimpArgs false
set_option maxRecDepth 20000

theorem law_KeepDoes (M : Amb) (H : List HP) (no : Int) (ws : List Int) (hws : ws.length = 6) (uv : Value) (ls : List Rec) (hu : Rd M [] uv 5 (ls.map rR)) (vv : Value) (ms : List Rec) (hvm : Rd M [] vv 5 (ms.map rR)) (n : Int) : FnV Try.prog M H 11 [.int .i64 no, .agg (ws.map vI).toArray, uv, vv, .int .i64 n] (.bool true) := by
  refine fn_intro Try.func11 rfl Try.ntmps11 rfl fun F hF => ?_
  refine r_seq ?_
  refine r_region ?_
  refine p_box rfl rfl rfl fun b6 => ?_
  refine p_as rfl rfl ?_
  refine o_keep (.c 0 rfl (.c 2 rfl (.c 3 rfl (.c 4 rfl (.c 6 rfl (.c 10 rfl .n)))))) ?_
  refine r_seq ?_
  refine r_seq ?_
  refine r_region ?_
  refine p_callv cf_48 (.n) rfl (law_keepBegun _ _) ?_
  refine p_not rfl rfl ?_
  refine o_keep (.c 0 rfl (.c 2 rfl (.c 3 rfl (.c 4 rfl (.c 6 rfl (.c 10 rfl (.c 19 rfl .n))))))) ?_
  refine r_cond _ rfl (fun h1 => ?_) (fun h1 => ?_)
  · simp at h1
  · skip
    refine r_skip ?_
    refine r_seq ?_
    refine r_seq ?_
    refine r_region ?_
    refine p_mv rfl rfl ?_
    refine l_op (x_p (pv_lens hu.len ⟨_, Try.underlying90⟩ (.n rfl) rfl rfl rfl rfl (fun _ => rfl)) rfl rfl ?_)
    refine p_gtr rfl rfl rfl ?_
    refine p_mv rfl rfl ?_
    refine l_op (x_p (pv_mv (.s rfl rfl rfl) rfl rfl (by first | exact fun _ => rfl | exact id | exact fun h => (Bool.and_eq_true_iff.1 h).1 | simp_all)) rfl rfl ?_)
    refine l_op (x_p (pv_lens hvm.len ⟨_, Try.underlying90⟩ (.s rfl rfl rfl) rfl rfl rfl rfl (by first | exact fun _ => rfl | exact id | exact fun h => (Bool.and_eq_true_iff.1 h).1 | simp_all)) rfl rfl ?_)
    refine l_op (x_p (pv_gtr (.s rfl rfl rfl) rfl rfl rfl (by refine fun h => ⟨?_, ?_⟩ <;> first | rfl | exact h | exact (Bool.and_eq_true_iff.1 h).1 | simp_all)) rfl rfl ?_)
    refine l_op (x_p (pv_or (.n rfl) rfl rfl rfl (fun _ => ⟨rfl, fun hc => by first | rfl | (rw [hc]; rfl) | simp_all⟩)) rfl rfl ?_)
    refine o_keep (.c 0 rfl (.c 2 rfl (.c 3 rfl (.c 4 rfl (.c 6 rfl (.c 10 rfl (.c 27 rfl .n))))))) ?_
    refine r_cond _ rfl (fun h2 => ?_) (fun h2 => ?_)
    · skip
      refine r_seq ?_
      refine r_region ?_
      refine p_as rfl rfl ?_
      refine o_keep (.c 0 rfl (.c 2 rfl (.c 3 rfl (.c 4 rfl (.c 6 rfl (.c 10 rfl .n)))))) ?_
      refine r_retv hF rfl (.c (.t rfl) .n) ?_ ?_
      · first | exact Ent.rfl | (repeat (first | exact Ent.rfl | refine Ent.c (SelB.ent) ?_ | refine Ent.c (SelS.ent) ?_ | refine Ent.cN ?_ | refine Ent.c (SelX.ent) ?_ | refine Ent.dropR ?_))
      · first | rfl | exact bool_eq (by simp)
    · skip
      have hL : ls.length ≤ 150 ∧ ms.length ≤ 150 := by simp at h2; omega
      refine r_skip ?_
      refine r_seq ?_
      rcases hq : replayS no ws ms with ⟨_ | s1, fl⟩
      · skip
        refine r_region ?_
        refine p_mv rfl rfl ?_
        refine p_lda ta_42 rfl (by exact (Tk.all (by first | rfl | assumption | (simp only [List.drop_zero, List.length_map]; assumption) | (simp [*]; done)))) rfl ?_
        refine p_mv rfl rfl ?_
        refine p_callc cf_49 (.c rfl (.c rfl (.c rfl .n))) rfl (kr_n _ no ws hws vv ms hvm (by omega) hq) ?_
        refine p_mv rfl rfl ?_
        refine p_ext rfl rfl rfl ?_
        refine p_ext rfl rfl rfl ?_
        refine p_alloc zr_92 rfl fun b12 => ?_
        refine p_as rfl rfl ?_
        refine p_store (.ofA ta_92) rfl rfl rfl (by first | rfl | exact rfl) (by first | rfl | exact (by first | rfl | simp [vI, Value.oneCell'])) (Ins.whole (by first | rfl | (simp only [List.length_map, List.length_cons, List.length_nil]; omega) | (simp [*]; done) | (simp [*]; rfl))) ?_
        refine o_keep (.c 0 rfl (.c 2 rfl (.c 3 rfl (.c 4 rfl (.c 6 rfl (.c 10 rfl (.c 11 rfl (.c 12 rfl .n)))))))) ?_
        refine r_seq ?_
        refine r_region ?_
        refine p_mv rfl rfl ?_
        refine p_lda ta_42 rfl (by exact (Tk.all (by first | rfl | assumption | (simp only [List.drop_zero, List.length_map]; assumption) | (simp [*]; done)))) rfl ?_
        refine p_mv rfl rfl ?_
        refine p_callc cf_50 (.c rfl (.c rfl (.c rfl .n))) rfl (br_n _ no ws hws vv ms hvm (by omega) hq) ?_
        refine p_mv rfl rfl ?_
        refine p_ext rfl rfl rfl ?_
        refine p_ext rfl rfl rfl ?_
        refine p_alloc zr_92 rfl fun b14 => ?_
        refine p_as rfl rfl ?_
        refine p_store (.ofA ta_92) rfl rfl rfl (by first | rfl | exact rfl) (by first | rfl | exact (by first | rfl | simp [vI, Value.oneCell'])) (Ins.whole (by first | rfl | (simp only [List.length_map, List.length_cons, List.length_nil]; omega) | (simp [*]; done) | (simp [*]; rfl))) ?_
        refine o_keep (.c 0 rfl (.c 2 rfl (.c 4 rfl (.c 6 rfl (.c 10 rfl (.c 11 rfl (.c 12 rfl (.c 13 rfl (.c 14 rfl .n))))))))) ?_
        refine r_seq ?_
        refine r_seq ?_
        refine r_plan _ [] mo (.c 0 rfl (.c 2 rfl (.c 4 rfl (.c 6 rfl (.c 10 rfl (.c 11 rfl (.c 12 rfl (.c 13 rfl (.c 14 rfl .n))))))))) Ent.rfl ?_
        refine qm_q (i := 0) (l := [.k 12]) rfl rfl rfl rfl (by kernel_rfl) rfl (fun He => RV.rq (q_lda ta_92 (.n rfl) rfl rfl (fun _ => rfl) (by exact (Tk.all rfl)))) ?_
        refine qm_q (i := 1) (l := [.k 14]) rfl rfl rfl rfl (by kernel_rfl) rfl (fun He => RV.rq (q_lda ta_92 (.n rfl) rfl rfl (fun _ => rfl) (by exact (Tk.all rfl)))) ?_
        refine qm_q (i := 2) (l := [.o 0, .o 1]) rfl rfl rfl rfl (by kernel_rfl) rfl (fun He => PV.rq (pv_to (pv_ane (eq_Fault) (.n rfl) rfl rfl rfl (fun _ => ⟨rfl, rfl⟩)) (show _ = Value.bool false by simp))) ?_
        refine qm_q (i := 3) (l := [.o 2]) rfl rfl rfl rfl (by kernel_rfl) rfl (fun He => PV.rq (pv_mv (.n rfl) rfl rfl (fun _ => rfl))) ?_
        refine qm_q (i := 4) (l := [.k 11, .o 3]) rfl rfl rfl rfl (by kernel_rfl) rfl (fun He => PV.rq (pv_mv (.s rfl rfl rfl) rfl rfl (by first | exact fun _ => rfl | exact id | exact fun h => (Bool.and_eq_true_iff.1 h).1 | simp_all))) ?_
        refine qm_q (i := 5) (l := [.o 4, .o 3]) rfl rfl rfl rfl (by kernel_rfl) rfl (fun He => PV.rq (pv_peqn Try.underlying44 (.s rfl rfl rfl) rfl rfl rfl (by refine fun h => ⟨?_, ?_⟩ <;> first | rfl | exact h | exact (Bool.and_eq_true_iff.1 h).1 | simp_all))) ?_
        refine qm_q (i := 6) (l := [.k 13, .o 3]) rfl rfl rfl rfl (by kernel_rfl) rfl (fun He => PV.rq (pv_mv (.s rfl rfl rfl) rfl rfl (by first | exact fun _ => rfl | exact id | exact fun h => (Bool.and_eq_true_iff.1 h).1 | simp_all))) ?_
        refine qm_q (i := 7) (l := [.o 6, .o 3]) rfl rfl rfl rfl (by kernel_rfl) rfl (fun He => PV.rq (pv_peqn Try.underlying45 (.s rfl rfl rfl) rfl rfl rfl (by refine fun h => ⟨?_, ?_⟩ <;> first | rfl | exact h | exact (Bool.and_eq_true_iff.1 h).1 | simp_all))) ?_
        refine qm_q (i := 8) (l := [.o 5, .o 7, .o 3]) rfl rfl rfl rfl (by kernel_rfl) rfl (fun He => PV.rq (pv_bne Try.underlying4 (.s rfl rfl rfl) rfl rfl rfl (by refine fun h => ⟨?_, ?_⟩ <;> first | rfl | exact h | exact (Bool.and_eq_true_iff.1 h).1 | simp_all))) ?_
        refine qm_q (i := 9) (l := [.o 3, .o 8]) rfl rfl rfl rfl (by kernel_rfl) rfl (fun He => PV.rq (pv_or (.n rfl) rfl rfl rfl (fun _ => ⟨rfl, fun hc => by first | rfl | (rw [hc]; rfl) | simp_all⟩))) ?_
        refine qm_q (i := 10) (l := [.o 9]) rfl rfl rfl rfl (by kernel_rfl) rfl (fun He => PV.rq (pv_mv (.n rfl) rfl rfl (fun _ => rfl))) ?_
        refine qm_q (i := 11) (l := [.k 11, .o 10]) rfl rfl rfl rfl (by kernel_rfl) rfl (fun He => PV.rq (pv_mv (.s rfl rfl rfl) rfl rfl (by first | exact fun _ => rfl | exact id | exact fun h => (Bool.and_eq_true_iff.1 h).1 | simp_all))) ?_
        refine qm_q (i := 12) (l := [.o 11, .o 10]) rfl rfl rfl rfl (by kernel_rfl) rfl (fun He => PV.rq (pv_pnen Try.underlying44 (.s rfl rfl rfl) rfl rfl rfl (by refine fun h => ⟨?_, ?_⟩ <;> first | rfl | exact h | exact (Bool.and_eq_true_iff.1 h).1 | simp_all))) ?_
        refine qm_q (i := 13) (l := [.o 12, .o 10]) rfl rfl rfl rfl (by kernel_rfl) rfl (fun He => PV.rq (pv_mv (.s rfl rfl rfl) rfl rfl (by first | exact fun _ => rfl | exact id | exact fun h => (Bool.and_eq_true_iff.1 h).1 | simp_all))) ?_
        refine qm_q (i := 14) (l := [.k 11, .o 13]) rfl rfl rfl rfl (by kernel_rfl) rfl (fun He => rq_no (v := .bool false) (.s rfl rfl rfl) rfl) ?_
        refine qm_q (i := 15) (l := [.o 14, .o 13]) rfl rfl rfl rfl (by kernel_rfl) rfl (fun He => rq_no (v := .bool false) (.s rfl rfl rfl) rfl) ?_
        refine qm_q (i := 16) (l := [.k 13, .o 13]) rfl rfl rfl rfl (by kernel_rfl) rfl (fun He => rq_no (v := .bool false) (.s rfl rfl rfl) rfl) ?_
        refine qm_q (i := 17) (l := [.o 16, .o 13]) rfl rfl rfl rfl (by kernel_rfl) rfl (fun He => rq_no (v := .bool false) (.s rfl rfl rfl) rfl) ?_
        refine qm_q (i := 18) (l := [.o 15, .o 17, .o 13]) rfl rfl rfl rfl (by kernel_rfl) rfl (fun He => rq_no (v := .bool false) (.s rfl rfl rfl) rfl) ?_
        refine qm_q (i := 19) (l := [.o 18, .o 13]) rfl rfl rfl rfl (by kernel_rfl) rfl (fun He => rq_no (v := .bool false) (.s rfl rfl rfl) rfl) ?_
        refine qm_q (i := 20) (l := [.k 11, .o 19]) rfl rfl rfl rfl (by kernel_rfl) rfl (fun He => rq_no (v := .bool false) (.s rfl rfl rfl) rfl) ?_
        refine qm_q (i := 21) (l := [.o 20, .o 19]) rfl rfl rfl rfl (by kernel_rfl) rfl (fun He => rq_no (v := .bool false) (.s rfl rfl rfl) rfl) ?_
        refine qm_q (i := 22) (l := [.k 13, .o 19]) rfl rfl rfl rfl (by kernel_rfl) rfl (fun He => rq_no (v := .bool false) (.s rfl rfl rfl) rfl) ?_
        refine qm_q (i := 23) (l := [.o 22, .o 19]) rfl rfl rfl rfl (by kernel_rfl) rfl (fun He => rq_no (v := .bool false) (.s rfl rfl rfl) rfl) ?_
        refine qm_q (i := 24) (l := [.o 23, .o 19]) rfl rfl rfl rfl (by kernel_rfl) rfl (fun He => rq_no (v := .bool false) (.s rfl rfl rfl) rfl) ?_
        refine qm_q (i := 25) (l := [.o 24, .o 19]) rfl rfl rfl rfl (by kernel_rfl) rfl (fun He => rq_no (v := .bool false) (.s rfl rfl rfl) rfl) ?_
        refine qm_q (i := 26) (l := [.o 21, .o 25, .o 19]) rfl rfl rfl rfl (by kernel_rfl) rfl (fun He => rq_no (v := .bool false) (.s rfl rfl rfl) rfl) ?_
        refine qm_q (i := 27) (l := [.o 26, .o 19]) rfl rfl rfl rfl (by kernel_rfl) rfl (fun He => rq_no (v := .bool false) (.s rfl rfl rfl) rfl) ?_
        refine qm_q (i := 28) (l := [.o 19, .o 27, .o 13]) rfl rfl rfl rfl (by kernel_rfl) rfl (fun He => rq_no (v := .bool false) (.s rfl rfl rfl) rfl) ?_
        refine qm_q (i := 29) (l := [.o 13, .o 28, .o 10]) rfl rfl rfl rfl (by kernel_rfl) rfl (fun He => PV.rq (pv_andf (.s rfl rfl rfl) rfl rfl (by first | exact fun _ => rfl | exact id | exact fun h => (Bool.and_eq_true_iff.1 h).1 | simp_all))) ?_
        refine qm_q (i := 30) (l := [.o 10, .o 29]) rfl rfl rfl rfl (by kernel_rfl) rfl (fun He => PV.rq (pv_or (.n rfl) rfl rfl rfl (fun _ => ⟨rfl, fun hc => by first | rfl | (rw [hc]; rfl) | simp_all⟩))) ?_
        refine qm_n (by kernel_rfl) (by kernel_rfl) (by kernel_rfl) (by kernel_rfl) (.c 0 rfl (.c 2 rfl (.c 4 rfl (.c 6 rfl (.c 10 rfl (.c 72 rfl .n)))))) ?_
        refine r_cond _ rfl (fun h3 => ?_) (fun h3 => ?_)
        · simp at h3
        · skip
          refine r_skip ?_
          refine r_seq ?_
          rcases hn : newS no ws with _ | s0
          · skip
            refine r_plan _ [] mo (.c 0 rfl (.c 2 rfl (.c 4 rfl (.c 6 rfl (.c 10 rfl .n))))) Ent.rfl ?_
            refine qm_q (i := 0) (l := [.k 0]) rfl rfl rfl rfl (by kernel_rfl) rfl (fun He => PV.rq (pv_mv (.n rfl) rfl rfl (fun _ => rfl))) ?_
            refine qm_q (i := 1) (l := [.k 6]) rfl rfl rfl rfl (by kernel_rfl) rfl (fun He => RV.rq (q_lda ta_42 (.n rfl) rfl rfl (fun _ => rfl) (by exact (Tk.all (by first | rfl | assumption | (simp only [List.drop_zero, List.length_map]; assumption) | (simp [*]; done)))))) ?_
            refine qm_q (i := 3) (l := [.k 0]) rfl rfl rfl rfl (by kernel_rfl) rfl (fun He => PV.rq (pv_mv (.n rfl) rfl rfl (fun _ => rfl))) ?_
            refine qm_q (i := 4) (l := [.k 6]) rfl rfl rfl rfl (by kernel_rfl) rfl (fun He => RV.rq (q_lda ta_42 (.n rfl) rfl rfl (fun _ => rfl) (by exact (Tk.all (by first | rfl | assumption | (simp only [List.drop_zero, List.length_map]; assumption) | (simp [*]; done)))))) ?_
            refine qm_callc (i := 2) [.o 0, .o 1] (by kernel_rfl) (by kernel_rfl) rfl rfl rfl rfl (by kernel_rfl) (by kernel_rfl) ⟨_, .n rfl, rfl⟩ cf_51 rfl (.c rfl (.c rfl .n)) (keep_New_none _ no ws hws hn) ?_
            refine qb_callc (i := 5) [.o 3, .o 4] (by kernel_rfl) (by kernel_rfl) rfl rfl rfl rfl (by kernel_rfl) (by kernel_rfl) (by kernel_rfl) ⟨_, .n rfl, rfl⟩ cf_52 rfl (.c rfl (.c rfl .n)) (pen_New_none _ no ws hws hn) ?_
            refine qm_q (i := 6) (l := [.o 2]) rfl rfl rfl rfl (by kernel_rfl) rfl (fun He => PV.rq (pv_as (.n rfl) rfl rfl (fun _ => rfl))) ?_
            refine qm_q (i := 7) (l := [.o 5]) rfl rfl rfl rfl (by kernel_rfl) rfl (fun He => PV.rq (pv_as (.n rfl) rfl rfl (fun _ => rfl))) ?_
            refine qm_n (by kernel_rfl) (by kernel_rfl) (by kernel_rfl) (by kernel_rfl) (.c 2 rfl (.c 4 rfl (.c 10 rfl (.c 15 rfl (.c 16 rfl .n))))) ?_
            refine r_seq ?_
            refine r_seq ?_
            refine r_region ?_
            refine p_mv rfl rfl ?_
            refine l_op (x_p (pv_peqn Try.underlying97 (.n rfl) rfl rfl rfl (fun _ => ⟨rfl, rfl⟩)) rfl rfl ?_)
            refine p_mv rfl rfl ?_
            refine l_op (x_p (pv_mv (.s rfl rfl rfl) rfl rfl (by first | exact fun _ => rfl | exact id | exact fun h => (Bool.and_eq_true_iff.1 h).1 | simp_all)) rfl rfl ?_)
            refine l_op (x_p (pv_peqn Try.underlying99 (.s rfl rfl rfl) rfl rfl rfl (by refine fun h => ⟨?_, ?_⟩ <;> first | rfl | exact h | exact (Bool.and_eq_true_iff.1 h).1 | simp_all)) rfl rfl ?_)
            refine l_op (x_p (pv_or (.n rfl) rfl rfl rfl (fun _ => ⟨rfl, fun hc => by first | rfl | (rw [hc]; rfl) | simp_all⟩)) rfl rfl ?_)
            refine o_keep (.c 2 rfl (.c 4 rfl (.c 10 rfl (.c 15 rfl (.c 16 rfl (.c 84 rfl .n)))))) ?_
            refine r_cond _ rfl (fun h4 => ?_) (fun h4 => ?_)
            · skip
              refine r_seq ?_
              refine r_region ?_
              refine p_mv rfl rfl ?_
              refine l_op (x_p (pv_peqn Try.underlying97 (.n rfl) rfl rfl rfl (fun _ => ⟨rfl, rfl⟩)) rfl rfl ?_)
              refine p_mv rfl rfl ?_
              refine l_op (x_p (pv_mv (.s rfl rfl rfl) rfl rfl (by first | exact fun _ => rfl | exact id | exact fun h => (Bool.and_eq_true_iff.1 h).1 | simp_all)) rfl rfl ?_)
              refine l_op (x_p (pv_peqn Try.underlying99 (.s rfl rfl rfl) rfl rfl rfl (by refine fun h => ⟨?_, ?_⟩ <;> first | rfl | exact h | exact (Bool.and_eq_true_iff.1 h).1 | simp_all)) rfl rfl ?_)
              refine l_op (x_p (pv_and (.n rfl) rfl rfl rfl (fun _ => ⟨rfl, fun hc => by first | rfl | (rw [hc]; rfl) | simp_all⟩)) rfl rfl ?_)
              refine p_as rfl rfl ?_
              refine o_keep (.c 2 rfl (.c 4 rfl (.c 10 rfl (.c 15 rfl (.c 16 rfl .n))))) ?_
              refine r_retv hF rfl (.c (.t rfl) .n) ?_ ?_
              · first | exact Ent.rfl | (repeat (first | exact Ent.rfl | refine Ent.c (SelB.ent) ?_ | refine Ent.c (SelS.ent) ?_ | refine Ent.cN ?_ | refine Ent.c (SelX.ent) ?_ | refine Ent.dropR ?_))
              · first | rfl | exact bool_eq (by simp)
            · simp at h4
          · skip
            refine r_plan _ [] mo (.c 0 rfl (.c 2 rfl (.c 4 rfl (.c 6 rfl (.c 10 rfl .n))))) Ent.rfl ?_
            refine qm_q (i := 0) (l := [.k 0]) rfl rfl rfl rfl (by kernel_rfl) rfl (fun He => PV.rq (pv_mv (.n rfl) rfl rfl (fun _ => rfl))) ?_
            refine qm_q (i := 1) (l := [.k 6]) rfl rfl rfl rfl (by kernel_rfl) rfl (fun He => RV.rq (q_lda ta_42 (.n rfl) rfl rfl (fun _ => rfl) (by exact (Tk.all (by first | rfl | assumption | (simp only [List.drop_zero, List.length_map]; assumption) | (simp [*]; done)))))) ?_
            refine qm_q (i := 3) (l := [.k 0]) rfl rfl rfl rfl (by kernel_rfl) rfl (fun He => PV.rq (pv_mv (.n rfl) rfl rfl (fun _ => rfl))) ?_
            refine qm_q (i := 4) (l := [.k 6]) rfl rfl rfl rfl (by kernel_rfl) rfl (fun He => RV.rq (q_lda ta_42 (.n rfl) rfl rfl (fun _ => rfl) (by exact (Tk.all (by first | rfl | assumption | (simp only [List.drop_zero, List.length_map]; assumption) | (simp [*]; done)))))) ?_
            refine qm_calle (i := 2) [.o 0, .o 1] (by kernel_rfl) (by kernel_rfl) rfl rfl rfl rfl (by kernel_rfl) (by kernel_rfl) ⟨_, .n rfl, rfl⟩ cf_51 rfl (.c rfl (.c rfl .n)) (keep_New_some _ no ws hws hn) fun b15 => ?_
            refine qm_cat ?_
            refine qb_calle (i := 5) [.o 3, .o 4] (by kernel_rfl) (by kernel_rfl) rfl rfl rfl rfl (by kernel_rfl) (by kernel_rfl) (by kernel_rfl) ⟨_, .n rfl, rfl⟩ cf_52 rfl (.c rfl (.c rfl .n)) (pen_New_some _ no ws hws hn) fun b16 => ?_
            refine qm_cat ?_
            refine qm_q (i := 6) (l := [.o 2]) rfl rfl rfl rfl (by kernel_rfl) rfl (fun He => PV.rq (pv_as (.n rfl) rfl rfl (fun _ => rfl))) ?_
            refine qm_q (i := 7) (l := [.o 5]) rfl rfl rfl rfl (by kernel_rfl) rfl (fun He => PV.rq (pv_as (.n rfl) rfl rfl (fun _ => rfl))) ?_
            refine qm_n (by kernel_rfl) (by kernel_rfl) (by kernel_rfl) (by kernel_rfl) (.c 2 rfl (.c 4 rfl (.c 10 rfl (.c 15 rfl (.c 16 rfl .n))))) ?_
            refine r_seq ?_
            refine r_seq ?_
            refine r_region ?_
            refine p_mv rfl rfl ?_
            refine l_op (x_p (pv_peqn Try.underlying97 (.n rfl) rfl rfl rfl (fun _ => ⟨rfl, rfl⟩)) rfl rfl ?_)
            refine p_mv rfl rfl ?_
            refine l_op (x_p (pv_mv (.s rfl rfl rfl) rfl rfl (by first | exact fun _ => rfl | exact id | exact fun h => (Bool.and_eq_true_iff.1 h).1 | simp_all)) rfl rfl ?_)
            refine l_op (x_p (pv_peqn Try.underlying99 (.s rfl rfl rfl) rfl rfl rfl (by refine fun h => ⟨?_, ?_⟩ <;> first | rfl | exact h | exact (Bool.and_eq_true_iff.1 h).1 | simp_all)) rfl rfl ?_)
            refine l_op (x_p (pv_or (.n rfl) rfl rfl rfl (fun _ => ⟨rfl, fun hc => by first | rfl | (rw [hc]; rfl) | simp_all⟩)) rfl rfl ?_)
            refine o_keep (.c 2 rfl (.c 4 rfl (.c 10 rfl (.c 15 rfl (.c 16 rfl (.c 84 rfl .n)))))) ?_
            refine r_cond _ rfl (fun h5 => ?_) (fun h5 => ?_)
            · simp at h5
            · skip
              refine r_skip ?_
              refine r_seq ?_
              refine r_seq ?_
              refine r_region ?_
              refine p_as rfl rfl ?_
              refine o_keep (.c 2 rfl (.c 4 rfl (.c 10 rfl (.c 15 rfl (.c 16 rfl (.c 17 rfl .n)))))) ?_
              refine r_block ?_
              refine r_loop_2 (fun (i : Nat) (k : KeepS) => [(17, true, .int .i64 (i : Int))]) (.c 2 rfl (.c 4 rfl (.c 10 rfl (.c 15 rfl (.c 16 rfl .n))))) (fun (i : Nat) (k : KeepS) => keepP b15 k :: penP b16 k :: blk b6 (ws.map vI) 42 :: H) (fun (i : Nat) (k : KeepS) => i ≤ ls.length ∧ KInv k) (fun (i : Nat) (k : KeepS) => ls.length - i) (0) (⟨no, ws, s0, []⟩) ?_ (.c 17 rfl .n) ?_ (fun i k hI => ?_)
              · exact ⟨Nat.zero_le _, (KInv.new (no := no) (ws := ws) (k := ⟨no, ws, s0, []⟩) (by unfold newK; rw [hn]; rfl)).1⟩
              · first | exact Ent.rfl | (repeat (first | exact Ent.rfl | refine Ent.c (SelB.ent) ?_ | refine Ent.c (SelS.ent) ?_ | refine Ent.cN ?_ | refine Ent.c (SelX.ent) ?_ | refine Ent.dropR ?_))
              · skip
                obtain ⟨hil, hK⟩ := hI
                refine r_seq ?_
                refine r_seq ?_
                refine r_region ?_
                refine p_mv rfl rfl ?_
                refine p_mv rfl rfl ?_
                refine l_op (x_p (pv_lens hu.len ⟨_, Try.underlying90⟩ (.n rfl) rfl rfl rfl rfl (fun _ => rfl)) rfl rfl ?_)
                refine p_lss rfl rfl rfl ?_
                refine o_keep (.c 2 rfl (.c 4 rfl (.c 10 rfl (.c 15 rfl (.c 16 rfl (.c 17 rfl (.c 94 rfl .n))))))) ?_
                refine r_cond _ rfl (fun h6 => ?_) (fun h6 => ?_)
                · skip
                  obtain ⟨r, hr⟩ := getlt (l := ls) (i := i) (by have := of_decide_eq_true h6; omega)
                  have hil2 := (List.getElem?_eq_some_iff.1 hr).1
                  refine r_skip ?_
                  refine r_seq ?_
                  refine r_block ?_
                  refine r_seq ?_
                  refine r_seq ?_
                  refine r_plan (_) ([keepP b15 k, penP b16 k]) mo (.c 2 rfl (.c 4 rfl (.c 10 rfl (.c 15 rfl (.c 16 rfl (.c 17 rfl .n)))))) ((Ent.c SelX.ent (Ent.c SelX.ent Ent.rfl))) ?_
                  refine qm_q (i := 0) (l := [.k 15]) rfl rfl rfl rfl (by kernel_rfl) rfl (fun He => PV.rq (pv_mv (.n rfl) rfl rfl (fun _ => rfl))) ?_
                  refine qm_q (i := 1) (l := [.k 2]) rfl rfl rfl rfl (by kernel_rfl) rfl (fun He => PV.rq (pv_mv (.n rfl) rfl rfl (fun _ => rfl))) ?_
                  refine qm_q (i := 2) (l := [.k 17]) rfl rfl rfl rfl (by kernel_rfl) rfl (fun He => PV.rq (pv_mv (.n rfl) rfl rfl (fun _ => rfl))) ?_
                  refine qm_q (i := 3) (l := [.o 1, .o 2]) rfl rfl rfl rfl (by kernel_rfl) rfl (fun He => PV.rq (pv_idx Try.underlying90 (.ofA ta_103) hu (fun hg => ⟨rfl, (mapget hr)⟩) (.n rfl) rfl rfl rfl (fun _ => ⟨rfl, rfl⟩))) ?_
                  refine qm_q (i := 4) (l := [.o 3]) rfl rfl rfl rfl (by kernel_rfl) rfl (fun He => RV.rq (rv_ldats (j := 0) ta_103 (Rd.ent hu (by repeat (first | exact Ent.rfl | exact Ent.one Ent.h | exact Ent.one (SelS.ent) | exact Ent.nil | exact Ent.left | refine Ent.dropR ?_ | refine Ent.tr Ent.skip ?_))) (fun hg => (mapget hr)) (.n rfl) rfl rfl (fun _ => rfl) rfl (.s (.s (.s (.s (.s .z))))))) ?_
                  refine qm_q (i := 6) (l := [.k 16]) rfl rfl rfl rfl (by kernel_rfl) rfl (fun He => PV.rq (pv_mv (.n rfl) rfl rfl (fun _ => rfl))) ?_
                  refine qm_q (i := 7) (l := [.k 2]) rfl rfl rfl rfl (by kernel_rfl) rfl (fun He => PV.rq (pv_mv (.n rfl) rfl rfl (fun _ => rfl))) ?_
                  refine qm_q (i := 8) (l := [.k 17]) rfl rfl rfl rfl (by kernel_rfl) rfl (fun He => PV.rq (pv_mv (.n rfl) rfl rfl (fun _ => rfl))) ?_
                  refine qm_q (i := 9) (l := [.o 7, .o 8]) rfl rfl rfl rfl (by kernel_rfl) rfl (fun He => PV.rq (pv_idx Try.underlying90 (.ofA ta_103) hu (fun hg => ⟨rfl, (mapget hr)⟩) (.n rfl) rfl rfl rfl (fun _ => ⟨rfl, rfl⟩))) ?_
                  refine qm_q (i := 10) (l := [.o 9]) rfl rfl rfl rfl (by kernel_rfl) rfl (fun He => RV.rq (rv_ldats (j := 0) ta_103 (Rd.ent hu (by repeat (first | exact Ent.rfl | exact Ent.one Ent.h | exact Ent.one (SelS.ent) | exact Ent.nil | exact Ent.left | refine Ent.dropR ?_ | refine Ent.tr Ent.skip ?_))) (fun hg => (mapget hr)) (.n rfl) rfl rfl (fun _ => rfl) rfl (.s (.s (.s (.s (.s .z))))))) ?_
                  refine qm_callc (i := 5) [.o 0, .o 4] (by kernel_rfl) (by kernel_rfl) rfl rfl rfl rfl (by kernel_rfl) (by kernel_rfl) ⟨_, .n rfl, rfl⟩ cf_53 rfl (.c rfl (.c rfl .n)) (keep_Do _ b15 k hK r) ?_
                  refine qb_callc (i := 11) [.o 6, .o 10] (by kernel_rfl) (by kernel_rfl) rfl rfl rfl rfl (by kernel_rfl) (by kernel_rfl) (by kernel_rfl) ⟨_, .n rfl, rfl⟩ cf_54 rfl (.c rfl (.c rfl .n)) (pen_Do _ b16 k hK r) ?_
                  refine qm_q (i := 12) (l := [.o 5, .o 11]) rfl rfl rfl rfl (by kernel_rfl) rfl (fun He => PV.rq (pv_neq (.n rfl) rfl rfl rfl (fun _ => ⟨rfl, rfl⟩))) ?_
                  refine qm_n (by kernel_rfl) (by kernel_rfl) (by kernel_rfl) (by kernel_rfl) (.c 2 rfl (.c 4 rfl (.c 10 rfl (.c 15 rfl (.c 16 rfl (.c 17 rfl (.c 109 rfl .n))))))) ?_
                  refine r_cond _ rfl (fun h7 => ?_) (fun h7 => ?_)
                  · simp at h7
                  · skip
                    have hK2 := hK.step r
                    generalize (doK k r).1 = k2 at hK2 ⊢
                    have hj1 := hK2.sh.holds_le
                    have hj2 := hK2.sh.over_le
                    have hj3 := hK2.l_le
                    refine r_skip ?_
                    refine r_seq ?_
                    refine r_seq ?_
                    refine r_region ?_
                    refine p_mv rfl rfl ?_
                    refine p_mv rfl rfl ?_
                    refine p_eql rfl rfl rfl ?_
                    refine o_keep (.c 2 rfl (.c 4 rfl (.c 10 rfl (.c 15 rfl (.c 16 rfl (.c 17 rfl (.c 112 rfl .n))))))) ?_
                    refine r_cond _ rfl (fun h8 => ?_) (fun h8 => ?_)
                    · skip
                      refine r_region ?_
                      refine p_mv rfl rfl ?_
                      refine p_callc cf_55 (.c rfl .n) rfl (keep_Crash _ b15 k2 hK2) ?_
                      refine o_keep (.c 2 rfl (.c 4 rfl (.c 10 rfl (.c 15 rfl (.c 16 rfl (.c 17 rfl .n)))))) ?_
                      refine r_seq ?_
                      refine r_sel (keepP b15 k2) ?_
                      refine r_ex2 fun sb lv => ?_
                      refine r_cat ?_
                      refine r_rd lv fun hrl => ?_
                      refine r_sel (penP b16 k2) ?_
                      refine r_ex2 fun bb pv => ?_
                      refine r_cat ?_
                      refine r_rd pv fun hrp => ?_
                      refine r_sel (boothP bb k2.shop) ?_
                      refine r_ex3 fun hv ov dv => ?_
                      refine r_cat ?_
                      refine r_rd hv fun hrh => ?_
                      refine r_plan _ [] mo (.c 2 rfl (.c 4 rfl (.c 10 rfl (.c 15 rfl (.c 16 rfl (.c 17 rfl .n)))))) Ent.rfl ?_
                      refine qm_q (i := 0) (l := [.k 15]) rfl rfl rfl rfl (by kernel_rfl) rfl (fun He => PV.rq (pv_mv (.n rfl) rfl rfl (fun _ => rfl))) ?_
                      refine qm_q (i := 1) (l := [.o 0]) rfl rfl rfl rfl (by kernel_rfl) rfl (fun He => PV.rq (pv_nilp (.n rfl) rfl rfl (fun _ => rfl))) ?_
                      refine qm_q (i := 2) (l := [.o 1]) rfl rfl rfl rfl (by kernel_rfl) rfl (fun He => PV.rq (pv_fa fa_105_0 (.n rfl) rfl rfl (fun _ => rfl))) ?_
                      refine qm_q (i := 3) (l := [.o 2]) rfl rfl rfl rfl (by kernel_rfl) rfl (fun He => RV.rq (q_ldc tc_44 (.n rfl) rfl rfl (fun _ => rfl) (by rfl))) ?_
                      refine qm_q (i := 4) (l := [.o 3]) rfl rfl rfl rfl (by kernel_rfl) rfl (fun He => rq_call cf_27 (.n rfl) rfl (.c rfl (fun _ => rfl) .n) (fun hg => (shop_Counts _ sb k2.shop).q)) ?_
                      refine qm_q (i := 5) (l := [.k 16]) rfl rfl rfl rfl (by kernel_rfl) rfl (fun He => PV.rq (pv_mv (.n rfl) rfl rfl (fun _ => rfl))) ?_
                      refine qm_q (i := 6) (l := [.o 5]) rfl rfl rfl rfl (by kernel_rfl) rfl (fun He => PV.rq (pv_nilp (.n rfl) rfl rfl (fun _ => rfl))) ?_
                      refine qm_q (i := 7) (l := [.o 6]) rfl rfl rfl rfl (by kernel_rfl) rfl (fun He => PV.rq (pv_fa fa_107_0 (.n rfl) rfl rfl (fun _ => rfl))) ?_
                      refine qm_q (i := 8) (l := [.o 7]) rfl rfl rfl rfl (by kernel_rfl) rfl (fun He => RV.rq (q_ldc tc_45 (.n rfl) rfl rfl (fun _ => rfl) (by rfl))) ?_
                      refine qm_q (i := 9) (l := [.o 8]) rfl rfl rfl rfl (by kernel_rfl) rfl (fun He => rq_call cf_28 (.n rfl) rfl (.c rfl (fun _ => rfl) .n) (fun hg => (booth_Counts_o _ bb k2.shop hK2.sh hv ov dv).q)) ?_
                      refine qm_q (i := 10) (l := [.o 4, .o 9]) rfl rfl rfl rfl (by kernel_rfl) rfl (fun He => PV.rq (pv_to (pv_ane eq_Cnts (.n rfl) rfl rfl rfl (fun _ => ⟨rfl, rfl⟩)) (show _ = Value.bool false by simp))) ?_
                      refine qm_q (i := 11) (l := [.o 10]) rfl rfl rfl rfl (by kernel_rfl) rfl (fun He => PV.rq (pv_mv (.n rfl) rfl rfl (fun _ => rfl))) ?_
                      refine qm_q (i := 12) (l := [.k 15, .o 11]) rfl rfl rfl rfl (by kernel_rfl) rfl (fun He => PV.rq (pv_mv (.s rfl rfl rfl) rfl rfl (by first | exact fun _ => rfl | exact id | exact fun h => (Bool.and_eq_true_iff.1 h).1 | simp_all))) ?_
                      refine qm_q (i := 13) (l := [.o 12, .o 11]) rfl rfl rfl rfl (by kernel_rfl) rfl (fun He => PV.rq (pv_nilp (.s rfl rfl rfl) rfl rfl (by first | exact fun _ => rfl | exact id | exact fun h => (Bool.and_eq_true_iff.1 h).1 | simp_all))) ?_
                      refine qm_q (i := 14) (l := [.o 13, .o 11]) rfl rfl rfl rfl (by kernel_rfl) rfl (fun He => PV.rq (pv_fa fa_105_0 (.s rfl rfl rfl) rfl rfl (by first | exact fun _ => rfl | exact id | exact fun h => (Bool.and_eq_true_iff.1 h).1 | simp_all))) ?_
                      refine qm_q (i := 15) (l := [.o 14, .o 11]) rfl rfl rfl rfl (by kernel_rfl) rfl (fun He => RV.rq (q_ldc tc_44 (.s rfl rfl rfl) rfl rfl (by first | exact fun _ => rfl | exact id | exact fun h => (Bool.and_eq_true_iff.1 h).1 | simp_all) (by rfl))) ?_
                      refine qm_q (i := 17) (l := [.k 16, .o 11]) rfl rfl rfl rfl (by kernel_rfl) rfl (fun He => PV.rq (pv_mv (.s rfl rfl rfl) rfl rfl (by first | exact fun _ => rfl | exact id | exact fun h => (Bool.and_eq_true_iff.1 h).1 | simp_all))) ?_
                      refine qm_q (i := 18) (l := [.o 17, .o 11]) rfl rfl rfl rfl (by kernel_rfl) rfl (fun He => PV.rq (pv_nilp (.s rfl rfl rfl) rfl rfl (by first | exact fun _ => rfl | exact id | exact fun h => (Bool.and_eq_true_iff.1 h).1 | simp_all))) ?_
                      refine qm_q (i := 19) (l := [.o 18, .o 11]) rfl rfl rfl rfl (by kernel_rfl) rfl (fun He => PV.rq (pv_fa fa_107_0 (.s rfl rfl rfl) rfl rfl (by first | exact fun _ => rfl | exact id | exact fun h => (Bool.and_eq_true_iff.1 h).1 | simp_all))) ?_
                      refine qm_q (i := 20) (l := [.o 19, .o 11]) rfl rfl rfl rfl (by kernel_rfl) rfl (fun He => RV.rq (q_ldc tc_45 (.s rfl rfl rfl) rfl rfl (by first | exact fun _ => rfl | exact id | exact fun h => (Bool.and_eq_true_iff.1 h).1 | simp_all) (by rfl))) ?_
                      refine qm_q (i := 21) (l := [.o 20, .o 11]) rfl rfl rfl rfl (by kernel_rfl) rfl (fun He => PV.rq (pv_nilp (.s rfl rfl rfl) rfl rfl (by first | exact fun _ => rfl | exact id | exact fun h => (Bool.and_eq_true_iff.1 h).1 | simp_all))) ?_
                      refine qm_q (i := 22) (l := [.o 21, .o 11]) rfl rfl rfl rfl (by kernel_rfl) rfl (fun He => PV.rq (pv_fa fa_59_2 (.s rfl rfl rfl) rfl rfl (by first | exact fun _ => rfl | exact id | exact fun h => (Bool.and_eq_true_iff.1 h).1 | simp_all))) ?_
                      refine qm_q (i := 23) (l := [.o 22, .o 11]) rfl rfl rfl rfl (by kernel_rfl) rfl (fun He => RV.rq (q_ldc tc_55 (.s rfl rfl rfl) rfl rfl (by first | exact fun _ => rfl | exact id | exact fun h => (Bool.and_eq_true_iff.1 h).1 | simp_all) (by rfl))) ?_
                      refine qm_calln (i := 16) [.o 15, .o 11] (by kernel_rfl) (by kernel_rfl) rfl rfl rfl rfl (by kernel_rfl) (by kernel_rfl) ⟨_, .s rfl rfl rfl, rfl⟩ cf_30 rfl (.c rfl .n) (shop_HoldsN _ sb k2.shop (by omega) (by omega)) fun hv1 => ?_
                      refine qm_cat ?_
                      refine qm_rd hv1 fun hr1 => ?_
                      refine qm_keep ?_
                      refine qm_q (i := 24) (l := [.o 16, .o 23, .o 11]) rfl rfl rfl rfl (by kernel_rfl) rfl (fun He => rq_call cf_29 (.s rfl rfl rfl) rfl (.c rfl (by first | exact fun _ => rfl | exact id | exact fun h => (Bool.and_eq_true_iff.1 h).1 | simp_all) (.c rfl (by first | exact fun _ => rfl | exact id | exact fun h => (Bool.and_eq_true_iff.1 h).1 | simp_all) .n)) (fun hg => fnv_tru (ref_SameHolds _ _ _ _ k2.shop.holds k2.shop.holds hr1.own hrh.own (by omega)))) ?_
                      refine qm_q (i := 25) (l := [.o 24, .o 11]) rfl rfl rfl rfl (by kernel_rfl) rfl (fun He => PV.rq (pv_not (.s rfl rfl rfl) rfl rfl (by first | exact fun _ => rfl | exact id | exact fun h => (Bool.and_eq_true_iff.1 h).1 | simp_all))) ?_
                      refine qm_q (i := 26) (l := [.o 11, .o 25]) rfl rfl rfl rfl (by kernel_rfl) rfl (fun He => PV.rq (pv_or (.n rfl) rfl rfl rfl (fun _ => ⟨rfl, fun hc => by first | rfl | (rw [hc]; rfl) | simp_all⟩))) ?_
                      refine qm_q (i := 27) (l := [.o 26]) rfl rfl rfl rfl (by kernel_rfl) rfl (fun He => PV.rq (pv_mv (.n rfl) rfl rfl (fun _ => rfl))) ?_
                      refine qm_q (i := 28) (l := [.k 15, .o 27]) rfl rfl rfl rfl (by kernel_rfl) rfl (fun He => PV.rq (pv_mv (.s rfl rfl rfl) rfl rfl (by first | exact fun _ => rfl | exact id | exact fun h => (Bool.and_eq_true_iff.1 h).1 | simp_all))) ?_
                      refine qm_q (i := 30) (l := [.k 16, .o 27]) rfl rfl rfl rfl (by kernel_rfl) rfl (fun He => PV.rq (pv_mv (.s rfl rfl rfl) rfl rfl (by first | exact fun _ => rfl | exact id | exact fun h => (Bool.and_eq_true_iff.1 h).1 | simp_all))) ?_
                      refine qm_q (i := 31) (l := [.o 30, .o 27]) rfl rfl rfl rfl (by kernel_rfl) rfl (fun He => PV.rq (pv_nilp (.s rfl rfl rfl) rfl rfl (by first | exact fun _ => rfl | exact id | exact fun h => (Bool.and_eq_true_iff.1 h).1 | simp_all))) ?_
                      refine qm_q (i := 32) (l := [.o 31, .o 27]) rfl rfl rfl rfl (by kernel_rfl) rfl (fun He => PV.rq (pv_fa fa_107_1 (.s rfl rfl rfl) rfl rfl (by first | exact fun _ => rfl | exact id | exact fun h => (Bool.and_eq_true_iff.1 h).1 | simp_all))) ?_
                      refine qm_q (i := 33) (l := [.o 32, .o 27]) rfl rfl rfl rfl (by kernel_rfl) rfl (fun He => RV.rq (q_ldc tc_90 (.s rfl rfl rfl) rfl rfl (by first | exact fun _ => rfl | exact id | exact fun h => (Bool.and_eq_true_iff.1 h).1 | simp_all) (by rfl))) ?_
                      refine qm_calln (i := 29) [.o 28, .o 27] (by kernel_rfl) (by kernel_rfl) rfl rfl rfl rfl (by kernel_rfl) (by kernel_rfl) ⟨_, .s rfl rfl rfl, rfl⟩ cf_57 rfl (.c rfl .n) (keep_Records_oN _ b15 k2 hK2 sb lv) fun rv1 => ?_
                      refine qm_cat ?_
                      refine qm_rd rv1 fun hq1 => ?_
                      refine qm_keep ?_
                      refine qm_q (i := 34) (l := [.o 29, .o 33, .o 27]) rfl rfl rfl rfl (by kernel_rfl) rfl (fun He => rq_call cf_56 (.s rfl rfl rfl) rfl (.c rfl (by first | exact fun _ => rfl | exact id | exact fun h => (Bool.and_eq_true_iff.1 h).1 | simp_all) (.c rfl (by first | exact fun _ => rfl | exact id | exact fun h => (Bool.and_eq_true_iff.1 h).1 | simp_all) .n)) (fun hg => ref_SameRecords _ _ _ _ k2.l k2.l hq1.own hrp.own (by omega))) ?_
                      refine qm_q (i := 35) (l := [.o 34, .o 27]) rfl rfl rfl rfl (by kernel_rfl) rfl (fun He => PV.rq (pv_not (.s rfl rfl rfl) rfl rfl (by first | exact fun _ => rfl | exact id | exact fun h => (Bool.and_eq_true_iff.1 h).1 | simp_all))) ?_
                      refine qm_q (i := 36) (l := [.o 27, .o 35]) rfl rfl rfl rfl (by kernel_rfl) rfl (fun He => PV.rq (pv_or (.n rfl) rfl rfl rfl (fun _ => ⟨rfl, fun hc => by first | rfl | (rw [hc]; rfl) | simp_all⟩))) ?_
                      refine qm_n (by kernel_rfl) (by kernel_rfl) (by kernel_rfl) (by kernel_rfl) (.c 2 rfl (.c 4 rfl (.c 10 rfl (.c 15 rfl (.c 16 rfl (.c 17 rfl (.c 151 rfl .n))))))) ?_
                      refine r_cond _ rfl (fun h9 => ?_) (fun h9 => ?_)
                      · simp at h9
                      · skip
                        refine r_skip ?_
                        refine r_end ?_
                        refine r_region ?_
                        refine p_mv rfl rfl ?_
                        refine p_add rfl rfl (by omega) rfl ?_
                        refine p_as rfl rfl ?_
                        refine o_keep (.c 2 rfl (.c 4 rfl (.c 10 rfl (.c 15 rfl (.c 16 rfl (.c 17 rfl .n)))))) ?_
                        refine r_back_2 (i + 1) (k2) ?_ ?_ (Keep.app (.c 17 rfl .n) (.c 2 rfl (.c 4 rfl (.c 10 rfl (.c 15 rfl (.c 16 rfl .n)))))) ?_
                        · exact ⟨by omega, hK2⟩
                        · omega
                        · refine Ent.tr (boothP_close (b := bb) (s := k2.shop) hv ov dv rfl rfl rfl rfl) ?_; refine Ent.c (keepP_close sb lv rfl rfl) ?_; refine Ent.c (penP_close bb pv rfl rfl) ?_; first | exact Ent.rfl | (repeat (first | exact Ent.rfl | refine Ent.c (SelB.ent) ?_ | refine Ent.c (SelS.ent) ?_ | refine Ent.cN ?_ | refine Ent.c (SelX.ent) ?_ | refine Ent.dropR ?_))
                    · skip
                      refine r_skip ?_
                      refine r_seq ?_
                      refine r_sel (keepP b15 k2) ?_
                      refine r_ex2 fun sb lv => ?_
                      refine r_cat ?_
                      refine r_rd lv fun hrl => ?_
                      refine r_sel (penP b16 k2) ?_
                      refine r_ex2 fun bb pv => ?_
                      refine r_cat ?_
                      refine r_rd pv fun hrp => ?_
                      refine r_sel (boothP bb k2.shop) ?_
                      refine r_ex3 fun hv ov dv => ?_
                      refine r_cat ?_
                      refine r_rd hv fun hrh => ?_
                      refine r_plan _ [] mo (.c 2 rfl (.c 4 rfl (.c 10 rfl (.c 15 rfl (.c 16 rfl (.c 17 rfl .n)))))) Ent.rfl ?_
                      refine qm_q (i := 0) (l := [.k 15]) rfl rfl rfl rfl (by kernel_rfl) rfl (fun He => PV.rq (pv_mv (.n rfl) rfl rfl (fun _ => rfl))) ?_
                      refine qm_q (i := 1) (l := [.o 0]) rfl rfl rfl rfl (by kernel_rfl) rfl (fun He => PV.rq (pv_nilp (.n rfl) rfl rfl (fun _ => rfl))) ?_
                      refine qm_q (i := 2) (l := [.o 1]) rfl rfl rfl rfl (by kernel_rfl) rfl (fun He => PV.rq (pv_fa fa_105_0 (.n rfl) rfl rfl (fun _ => rfl))) ?_
                      refine qm_q (i := 3) (l := [.o 2]) rfl rfl rfl rfl (by kernel_rfl) rfl (fun He => RV.rq (q_ldc tc_44 (.n rfl) rfl rfl (fun _ => rfl) (by rfl))) ?_
                      refine qm_q (i := 4) (l := [.o 3]) rfl rfl rfl rfl (by kernel_rfl) rfl (fun He => rq_call cf_27 (.n rfl) rfl (.c rfl (fun _ => rfl) .n) (fun hg => (shop_Counts _ sb k2.shop).q)) ?_
                      refine qm_q (i := 5) (l := [.k 16]) rfl rfl rfl rfl (by kernel_rfl) rfl (fun He => PV.rq (pv_mv (.n rfl) rfl rfl (fun _ => rfl))) ?_
                      refine qm_q (i := 6) (l := [.o 5]) rfl rfl rfl rfl (by kernel_rfl) rfl (fun He => PV.rq (pv_nilp (.n rfl) rfl rfl (fun _ => rfl))) ?_
                      refine qm_q (i := 7) (l := [.o 6]) rfl rfl rfl rfl (by kernel_rfl) rfl (fun He => PV.rq (pv_fa fa_107_0 (.n rfl) rfl rfl (fun _ => rfl))) ?_
                      refine qm_q (i := 8) (l := [.o 7]) rfl rfl rfl rfl (by kernel_rfl) rfl (fun He => RV.rq (q_ldc tc_45 (.n rfl) rfl rfl (fun _ => rfl) (by rfl))) ?_
                      refine qm_q (i := 9) (l := [.o 8]) rfl rfl rfl rfl (by kernel_rfl) rfl (fun He => rq_call cf_28 (.n rfl) rfl (.c rfl (fun _ => rfl) .n) (fun hg => (booth_Counts_o _ bb k2.shop hK2.sh hv ov dv).q)) ?_
                      refine qm_q (i := 10) (l := [.o 4, .o 9]) rfl rfl rfl rfl (by kernel_rfl) rfl (fun He => PV.rq (pv_to (pv_ane eq_Cnts (.n rfl) rfl rfl rfl (fun _ => ⟨rfl, rfl⟩)) (show _ = Value.bool false by simp))) ?_
                      refine qm_q (i := 11) (l := [.o 10]) rfl rfl rfl rfl (by kernel_rfl) rfl (fun He => PV.rq (pv_mv (.n rfl) rfl rfl (fun _ => rfl))) ?_
                      refine qm_q (i := 12) (l := [.k 15, .o 11]) rfl rfl rfl rfl (by kernel_rfl) rfl (fun He => PV.rq (pv_mv (.s rfl rfl rfl) rfl rfl (by first | exact fun _ => rfl | exact id | exact fun h => (Bool.and_eq_true_iff.1 h).1 | simp_all))) ?_
                      refine qm_q (i := 13) (l := [.o 12, .o 11]) rfl rfl rfl rfl (by kernel_rfl) rfl (fun He => PV.rq (pv_nilp (.s rfl rfl rfl) rfl rfl (by first | exact fun _ => rfl | exact id | exact fun h => (Bool.and_eq_true_iff.1 h).1 | simp_all))) ?_
                      refine qm_q (i := 14) (l := [.o 13, .o 11]) rfl rfl rfl rfl (by kernel_rfl) rfl (fun He => PV.rq (pv_fa fa_105_0 (.s rfl rfl rfl) rfl rfl (by first | exact fun _ => rfl | exact id | exact fun h => (Bool.and_eq_true_iff.1 h).1 | simp_all))) ?_
                      refine qm_q (i := 15) (l := [.o 14, .o 11]) rfl rfl rfl rfl (by kernel_rfl) rfl (fun He => RV.rq (q_ldc tc_44 (.s rfl rfl rfl) rfl rfl (by first | exact fun _ => rfl | exact id | exact fun h => (Bool.and_eq_true_iff.1 h).1 | simp_all) (by rfl))) ?_
                      refine qm_q (i := 17) (l := [.k 16, .o 11]) rfl rfl rfl rfl (by kernel_rfl) rfl (fun He => PV.rq (pv_mv (.s rfl rfl rfl) rfl rfl (by first | exact fun _ => rfl | exact id | exact fun h => (Bool.and_eq_true_iff.1 h).1 | simp_all))) ?_
                      refine qm_q (i := 18) (l := [.o 17, .o 11]) rfl rfl rfl rfl (by kernel_rfl) rfl (fun He => PV.rq (pv_nilp (.s rfl rfl rfl) rfl rfl (by first | exact fun _ => rfl | exact id | exact fun h => (Bool.and_eq_true_iff.1 h).1 | simp_all))) ?_
                      refine qm_q (i := 19) (l := [.o 18, .o 11]) rfl rfl rfl rfl (by kernel_rfl) rfl (fun He => PV.rq (pv_fa fa_107_0 (.s rfl rfl rfl) rfl rfl (by first | exact fun _ => rfl | exact id | exact fun h => (Bool.and_eq_true_iff.1 h).1 | simp_all))) ?_
                      refine qm_q (i := 20) (l := [.o 19, .o 11]) rfl rfl rfl rfl (by kernel_rfl) rfl (fun He => RV.rq (q_ldc tc_45 (.s rfl rfl rfl) rfl rfl (by first | exact fun _ => rfl | exact id | exact fun h => (Bool.and_eq_true_iff.1 h).1 | simp_all) (by rfl))) ?_
                      refine qm_q (i := 21) (l := [.o 20, .o 11]) rfl rfl rfl rfl (by kernel_rfl) rfl (fun He => PV.rq (pv_nilp (.s rfl rfl rfl) rfl rfl (by first | exact fun _ => rfl | exact id | exact fun h => (Bool.and_eq_true_iff.1 h).1 | simp_all))) ?_
                      refine qm_q (i := 22) (l := [.o 21, .o 11]) rfl rfl rfl rfl (by kernel_rfl) rfl (fun He => PV.rq (pv_fa fa_59_2 (.s rfl rfl rfl) rfl rfl (by first | exact fun _ => rfl | exact id | exact fun h => (Bool.and_eq_true_iff.1 h).1 | simp_all))) ?_
                      refine qm_q (i := 23) (l := [.o 22, .o 11]) rfl rfl rfl rfl (by kernel_rfl) rfl (fun He => RV.rq (q_ldc tc_55 (.s rfl rfl rfl) rfl rfl (by first | exact fun _ => rfl | exact id | exact fun h => (Bool.and_eq_true_iff.1 h).1 | simp_all) (by rfl))) ?_
                      refine qm_calln (i := 16) [.o 15, .o 11] (by kernel_rfl) (by kernel_rfl) rfl rfl rfl rfl (by kernel_rfl) (by kernel_rfl) ⟨_, .s rfl rfl rfl, rfl⟩ cf_30 rfl (.c rfl .n) (shop_HoldsN _ sb k2.shop (by omega) (by omega)) fun hv1 => ?_
                      refine qm_cat ?_
                      refine qm_rd hv1 fun hr1 => ?_
                      refine qm_keep ?_
                      refine qm_q (i := 24) (l := [.o 16, .o 23, .o 11]) rfl rfl rfl rfl (by kernel_rfl) rfl (fun He => rq_call cf_29 (.s rfl rfl rfl) rfl (.c rfl (by first | exact fun _ => rfl | exact id | exact fun h => (Bool.and_eq_true_iff.1 h).1 | simp_all) (.c rfl (by first | exact fun _ => rfl | exact id | exact fun h => (Bool.and_eq_true_iff.1 h).1 | simp_all) .n)) (fun hg => fnv_tru (ref_SameHolds _ _ _ _ k2.shop.holds k2.shop.holds hr1.own hrh.own (by omega)))) ?_
                      refine qm_q (i := 25) (l := [.o 24, .o 11]) rfl rfl rfl rfl (by kernel_rfl) rfl (fun He => PV.rq (pv_not (.s rfl rfl rfl) rfl rfl (by first | exact fun _ => rfl | exact id | exact fun h => (Bool.and_eq_true_iff.1 h).1 | simp_all))) ?_
                      refine qm_q (i := 26) (l := [.o 11, .o 25]) rfl rfl rfl rfl (by kernel_rfl) rfl (fun He => PV.rq (pv_or (.n rfl) rfl rfl rfl (fun _ => ⟨rfl, fun hc => by first | rfl | (rw [hc]; rfl) | simp_all⟩))) ?_
                      refine qm_q (i := 27) (l := [.o 26]) rfl rfl rfl rfl (by kernel_rfl) rfl (fun He => PV.rq (pv_mv (.n rfl) rfl rfl (fun _ => rfl))) ?_
                      refine qm_q (i := 28) (l := [.k 15, .o 27]) rfl rfl rfl rfl (by kernel_rfl) rfl (fun He => PV.rq (pv_mv (.s rfl rfl rfl) rfl rfl (by first | exact fun _ => rfl | exact id | exact fun h => (Bool.and_eq_true_iff.1 h).1 | simp_all))) ?_
                      refine qm_q (i := 30) (l := [.k 16, .o 27]) rfl rfl rfl rfl (by kernel_rfl) rfl (fun He => PV.rq (pv_mv (.s rfl rfl rfl) rfl rfl (by first | exact fun _ => rfl | exact id | exact fun h => (Bool.and_eq_true_iff.1 h).1 | simp_all))) ?_
                      refine qm_q (i := 31) (l := [.o 30, .o 27]) rfl rfl rfl rfl (by kernel_rfl) rfl (fun He => PV.rq (pv_nilp (.s rfl rfl rfl) rfl rfl (by first | exact fun _ => rfl | exact id | exact fun h => (Bool.and_eq_true_iff.1 h).1 | simp_all))) ?_
                      refine qm_q (i := 32) (l := [.o 31, .o 27]) rfl rfl rfl rfl (by kernel_rfl) rfl (fun He => PV.rq (pv_fa fa_107_1 (.s rfl rfl rfl) rfl rfl (by first | exact fun _ => rfl | exact id | exact fun h => (Bool.and_eq_true_iff.1 h).1 | simp_all))) ?_
                      refine qm_q (i := 33) (l := [.o 32, .o 27]) rfl rfl rfl rfl (by kernel_rfl) rfl (fun He => RV.rq (q_ldc tc_90 (.s rfl rfl rfl) rfl rfl (by first | exact fun _ => rfl | exact id | exact fun h => (Bool.and_eq_true_iff.1 h).1 | simp_all) (by rfl))) ?_
                      refine qm_calln (i := 29) [.o 28, .o 27] (by kernel_rfl) (by kernel_rfl) rfl rfl rfl rfl (by kernel_rfl) (by kernel_rfl) ⟨_, .s rfl rfl rfl, rfl⟩ cf_57 rfl (.c rfl .n) (keep_Records_oN _ b15 k2 hK2 sb lv) fun rv1 => ?_
                      refine qm_cat ?_
                      refine qm_rd rv1 fun hq1 => ?_
                      refine qm_keep ?_
                      refine qm_q (i := 34) (l := [.o 29, .o 33, .o 27]) rfl rfl rfl rfl (by kernel_rfl) rfl (fun He => rq_call cf_56 (.s rfl rfl rfl) rfl (.c rfl (by first | exact fun _ => rfl | exact id | exact fun h => (Bool.and_eq_true_iff.1 h).1 | simp_all) (.c rfl (by first | exact fun _ => rfl | exact id | exact fun h => (Bool.and_eq_true_iff.1 h).1 | simp_all) .n)) (fun hg => ref_SameRecords _ _ _ _ k2.l k2.l hq1.own hrp.own (by omega))) ?_
                      refine qm_q (i := 35) (l := [.o 34, .o 27]) rfl rfl rfl rfl (by kernel_rfl) rfl (fun He => PV.rq (pv_not (.s rfl rfl rfl) rfl rfl (by first | exact fun _ => rfl | exact id | exact fun h => (Bool.and_eq_true_iff.1 h).1 | simp_all))) ?_
                      refine qm_q (i := 36) (l := [.o 27, .o 35]) rfl rfl rfl rfl (by kernel_rfl) rfl (fun He => PV.rq (pv_or (.n rfl) rfl rfl rfl (fun _ => ⟨rfl, fun hc => by first | rfl | (rw [hc]; rfl) | simp_all⟩))) ?_
                      refine qm_n (by kernel_rfl) (by kernel_rfl) (by kernel_rfl) (by kernel_rfl) (.c 2 rfl (.c 4 rfl (.c 10 rfl (.c 15 rfl (.c 16 rfl (.c 17 rfl (.c 151 rfl .n))))))) ?_
                      refine r_cond _ rfl (fun h10 => ?_) (fun h10 => ?_)
                      · simp at h10
                      · skip
                        refine r_skip ?_
                        refine r_end ?_
                        refine r_region ?_
                        refine p_mv rfl rfl ?_
                        refine p_add rfl rfl (by omega) rfl ?_
                        refine p_as rfl rfl ?_
                        refine o_keep (.c 2 rfl (.c 4 rfl (.c 10 rfl (.c 15 rfl (.c 16 rfl (.c 17 rfl .n)))))) ?_
                        refine r_back_2 (i + 1) (k2) ?_ ?_ (Keep.app (.c 17 rfl .n) (.c 2 rfl (.c 4 rfl (.c 10 rfl (.c 15 rfl (.c 16 rfl .n)))))) ?_
                        · exact ⟨by omega, hK2⟩
                        · omega
                        · refine Ent.tr (boothP_close (b := bb) (s := k2.shop) hv ov dv rfl rfl rfl rfl) ?_; refine Ent.c (keepP_close sb lv rfl rfl) ?_; refine Ent.c (penP_close bb pv rfl rfl) ?_; first | exact Ent.rfl | (repeat (first | exact Ent.rfl | refine Ent.c (SelB.ent) ?_ | refine Ent.c (SelS.ent) ?_ | refine Ent.cN ?_ | refine Ent.c (SelX.ent) ?_ | refine Ent.dropR ?_))
                · skip
                  refine r_exit rfl ?_
                  refine r_seq ?_
                  refine r_region ?_
                  refine p_as rfl rfl ?_
                  refine o_keep (.c 10 rfl .n) ?_
                  refine r_retv hF rfl (.c (.t rfl) .n) ?_ ?_
                  · first | exact Ent.rfl | (repeat (first | exact Ent.rfl | refine Ent.c (SelB.ent) ?_ | refine Ent.c (SelS.ent) ?_ | refine Ent.cN ?_ | refine Ent.c (SelX.ent) ?_ | refine Ent.dropR ?_))
                  · first | rfl | exact bool_eq (by simp)
      · skip
        have hS1 := replayS_inv hq
        have hb1 := hS1.holds_le
        have hb2 := hS1.over_le
        refine r_region ?_
        refine p_mv rfl rfl ?_
        refine p_lda ta_42 rfl (by exact (Tk.all (by first | rfl | assumption | (simp only [List.drop_zero, List.length_map]; assumption) | (simp [*]; done)))) rfl ?_
        refine p_mv rfl rfl ?_
        refine p_calle cf_49 (.c rfl (.c rfl (.c rfl .n))) rfl (kr_s _ no ws hws vv ms hvm (by omega) hq) fun x => ?_
        refine o_cat ?_
        refine p_mv rfl rfl ?_
        refine p_ext rfl rfl rfl ?_
        refine p_ext rfl rfl rfl ?_
        refine p_alloc zr_92 rfl fun b12 => ?_
        refine p_as rfl rfl ?_
        refine p_store (.ofA ta_92) rfl rfl rfl (by first | rfl | exact rfl) (by first | rfl | exact (by first | rfl | simp [vI, Value.oneCell'])) (Ins.whole (by first | rfl | (simp only [List.length_map, List.length_cons, List.length_nil]; omega) | (simp [*]; done) | (simp [*]; rfl))) ?_
        refine o_keep (.c 0 rfl (.c 2 rfl (.c 3 rfl (.c 4 rfl (.c 6 rfl (.c 10 rfl (.c 11 rfl (.c 12 rfl .n)))))))) ?_
        refine r_seq ?_
        refine r_region ?_
        refine p_mv rfl rfl ?_
        refine p_lda ta_42 rfl (by exact (Tk.all (by first | rfl | assumption | (simp only [List.drop_zero, List.length_map]; assumption) | (simp [*]; done)))) rfl ?_
        refine p_mv rfl rfl ?_
        refine p_calle cf_50 (.c rfl (.c rfl (.c rfl .n))) rfl (br_s _ no ws hws vv ms hvm (by omega) hq) fun y => ?_
        refine o_cat ?_
        refine p_mv rfl rfl ?_
        refine p_ext rfl rfl rfl ?_
        refine p_ext rfl rfl rfl ?_
        refine p_alloc zr_92 rfl fun b14 => ?_
        refine p_as rfl rfl ?_
        refine p_store (.ofA ta_92) rfl rfl rfl (by first | rfl | exact rfl) (by first | rfl | exact (by first | rfl | simp [vI, Value.oneCell'])) (Ins.whole (by first | rfl | (simp only [List.length_map, List.length_cons, List.length_nil]; omega) | (simp [*]; done) | (simp [*]; rfl))) ?_
        refine o_keep (.c 0 rfl (.c 2 rfl (.c 4 rfl (.c 6 rfl (.c 10 rfl (.c 11 rfl (.c 12 rfl (.c 13 rfl (.c 14 rfl .n))))))))) ?_
        refine r_seq ?_
        refine r_seq ?_
        refine r_sel (boothP y s1) ?_
        refine r_ex3 fun hv ov dv => ?_
        refine r_cat ?_
        refine r_rd hv fun hrh => ?_
        refine r_plan _ [] mo (.c 0 rfl (.c 2 rfl (.c 4 rfl (.c 6 rfl (.c 10 rfl (.c 11 rfl (.c 12 rfl (.c 13 rfl (.c 14 rfl .n))))))))) Ent.rfl ?_
        refine qm_q (i := 0) (l := [.k 12]) rfl rfl rfl rfl (by kernel_rfl) rfl (fun He => RV.rq (q_lda ta_92 (.n rfl) rfl rfl (fun _ => rfl) (by exact (Tk.all rfl)))) ?_
        refine qm_q (i := 1) (l := [.k 14]) rfl rfl rfl rfl (by kernel_rfl) rfl (fun He => RV.rq (q_lda ta_92 (.n rfl) rfl rfl (fun _ => rfl) (by exact (Tk.all rfl)))) ?_
        refine qm_q (i := 2) (l := [.o 0, .o 1]) rfl rfl rfl rfl (by kernel_rfl) rfl (fun He => PV.rq (pv_to (pv_ane (eq_Fault) (.n rfl) rfl rfl rfl (fun _ => ⟨rfl, rfl⟩)) (show _ = Value.bool false by simp))) ?_
        refine qm_q (i := 3) (l := [.o 2]) rfl rfl rfl rfl (by kernel_rfl) rfl (fun He => PV.rq (pv_mv (.n rfl) rfl rfl (fun _ => rfl))) ?_
        refine qm_q (i := 4) (l := [.k 11, .o 3]) rfl rfl rfl rfl (by kernel_rfl) rfl (fun He => PV.rq (pv_mv (.s rfl rfl rfl) rfl rfl (by first | exact fun _ => rfl | exact id | exact fun h => (Bool.and_eq_true_iff.1 h).1 | simp_all))) ?_
        refine qm_q (i := 5) (l := [.o 4, .o 3]) rfl rfl rfl rfl (by kernel_rfl) rfl (fun He => PV.rq (pv_peqn Try.underlying44 (.s rfl rfl rfl) rfl rfl rfl (by refine fun h => ⟨?_, ?_⟩ <;> first | rfl | exact h | exact (Bool.and_eq_true_iff.1 h).1 | simp_all))) ?_
        refine qm_q (i := 6) (l := [.k 13, .o 3]) rfl rfl rfl rfl (by kernel_rfl) rfl (fun He => PV.rq (pv_mv (.s rfl rfl rfl) rfl rfl (by first | exact fun _ => rfl | exact id | exact fun h => (Bool.and_eq_true_iff.1 h).1 | simp_all))) ?_
        refine qm_q (i := 7) (l := [.o 6, .o 3]) rfl rfl rfl rfl (by kernel_rfl) rfl (fun He => PV.rq (pv_peqn Try.underlying45 (.s rfl rfl rfl) rfl rfl rfl (by refine fun h => ⟨?_, ?_⟩ <;> first | rfl | exact h | exact (Bool.and_eq_true_iff.1 h).1 | simp_all))) ?_
        refine qm_q (i := 8) (l := [.o 5, .o 7, .o 3]) rfl rfl rfl rfl (by kernel_rfl) rfl (fun He => PV.rq (pv_bne Try.underlying4 (.s rfl rfl rfl) rfl rfl rfl (by refine fun h => ⟨?_, ?_⟩ <;> first | rfl | exact h | exact (Bool.and_eq_true_iff.1 h).1 | simp_all))) ?_
        refine qm_q (i := 9) (l := [.o 3, .o 8]) rfl rfl rfl rfl (by kernel_rfl) rfl (fun He => PV.rq (pv_or (.n rfl) rfl rfl rfl (fun _ => ⟨rfl, fun hc => by first | rfl | (rw [hc]; rfl) | simp_all⟩))) ?_
        refine qm_q (i := 10) (l := [.o 9]) rfl rfl rfl rfl (by kernel_rfl) rfl (fun He => PV.rq (pv_mv (.n rfl) rfl rfl (fun _ => rfl))) ?_
        refine qm_q (i := 11) (l := [.k 11, .o 10]) rfl rfl rfl rfl (by kernel_rfl) rfl (fun He => PV.rq (pv_mv (.s rfl rfl rfl) rfl rfl (by first | exact fun _ => rfl | exact id | exact fun h => (Bool.and_eq_true_iff.1 h).1 | simp_all))) ?_
        refine qm_q (i := 12) (l := [.o 11, .o 10]) rfl rfl rfl rfl (by kernel_rfl) rfl (fun He => PV.rq (pv_pnen Try.underlying44 (.s rfl rfl rfl) rfl rfl rfl (by refine fun h => ⟨?_, ?_⟩ <;> first | rfl | exact h | exact (Bool.and_eq_true_iff.1 h).1 | simp_all))) ?_
        refine qm_q (i := 13) (l := [.o 12, .o 10]) rfl rfl rfl rfl (by kernel_rfl) rfl (fun He => PV.rq (pv_mv (.s rfl rfl rfl) rfl rfl (by first | exact fun _ => rfl | exact id | exact fun h => (Bool.and_eq_true_iff.1 h).1 | simp_all))) ?_
        refine qm_q (i := 14) (l := [.k 11, .o 13]) rfl rfl rfl rfl (by kernel_rfl) rfl (fun He => PV.rq (pv_mv (.s rfl rfl rfl) rfl rfl (by first | exact fun _ => rfl | exact id | exact fun h => (Bool.and_eq_true_iff.1 h).1 | simp_all))) ?_
        refine qm_q (i := 15) (l := [.o 14, .o 13]) rfl rfl rfl rfl (by kernel_rfl) rfl (fun He => rq_call cf_27 (.s rfl rfl rfl) rfl (.c rfl (by first | exact fun _ => rfl | exact id | exact fun h => (Bool.and_eq_true_iff.1 h).1 | simp_all) .n) (fun hg => (shop_Counts _ x s1).q)) ?_
        refine qm_q (i := 16) (l := [.k 13, .o 13]) rfl rfl rfl rfl (by kernel_rfl) rfl (fun He => PV.rq (pv_mv (.s rfl rfl rfl) rfl rfl (by first | exact fun _ => rfl | exact id | exact fun h => (Bool.and_eq_true_iff.1 h).1 | simp_all))) ?_
        refine qm_q (i := 17) (l := [.o 16, .o 13]) rfl rfl rfl rfl (by kernel_rfl) rfl (fun He => rq_call cf_28 (.s rfl rfl rfl) rfl (.c rfl (by first | exact fun _ => rfl | exact id | exact fun h => (Bool.and_eq_true_iff.1 h).1 | simp_all) .n) (fun hg => (booth_Counts_o _ y s1 hS1 hv ov dv).q)) ?_
        refine qm_q (i := 18) (l := [.o 15, .o 17, .o 13]) rfl rfl rfl rfl (by kernel_rfl) rfl (fun He => PV.rq (pv_to (pv_ane eq_Cnts (.s rfl rfl rfl) rfl rfl rfl (by refine fun h => ⟨?_, ?_⟩ <;> first | rfl | exact h | exact (Bool.and_eq_true_iff.1 h).1 | simp_all)) (show _ = Value.bool false by simp))) ?_
        refine qm_q (i := 19) (l := [.o 18, .o 13]) rfl rfl rfl rfl (by kernel_rfl) rfl (fun He => PV.rq (pv_mv (.s rfl rfl rfl) rfl rfl (by first | exact fun _ => rfl | exact id | exact fun h => (Bool.and_eq_true_iff.1 h).1 | simp_all))) ?_
        refine qm_q (i := 20) (l := [.k 11, .o 19]) rfl rfl rfl rfl (by kernel_rfl) rfl (fun He => PV.rq (pv_mv (.s rfl rfl rfl) rfl rfl (by first | exact fun _ => rfl | exact id | exact fun h => (Bool.and_eq_true_iff.1 h).1 | simp_all))) ?_
        refine qm_q (i := 22) (l := [.k 13, .o 19]) rfl rfl rfl rfl (by kernel_rfl) rfl (fun He => PV.rq (pv_mv (.s rfl rfl rfl) rfl rfl (by first | exact fun _ => rfl | exact id | exact fun h => (Bool.and_eq_true_iff.1 h).1 | simp_all))) ?_
        refine qm_q (i := 23) (l := [.o 22, .o 19]) rfl rfl rfl rfl (by kernel_rfl) rfl (fun He => PV.rq (pv_nilp (.s rfl rfl rfl) rfl rfl (by first | exact fun _ => rfl | exact id | exact fun h => (Bool.and_eq_true_iff.1 h).1 | simp_all))) ?_
        refine qm_q (i := 24) (l := [.o 23, .o 19]) rfl rfl rfl rfl (by kernel_rfl) rfl (fun He => PV.rq (pv_fa fa_59_2 (.s rfl rfl rfl) rfl rfl (by first | exact fun _ => rfl | exact id | exact fun h => (Bool.and_eq_true_iff.1 h).1 | simp_all))) ?_
        refine qm_q (i := 25) (l := [.o 24, .o 19]) rfl rfl rfl rfl (by kernel_rfl) rfl (fun He => RV.rq (q_ldc tc_55 (.s rfl rfl rfl) rfl rfl (by first | exact fun _ => rfl | exact id | exact fun h => (Bool.and_eq_true_iff.1 h).1 | simp_all) (by rfl))) ?_
        refine qm_calln (i := 21) [.o 20, .o 19] (by kernel_rfl) (by kernel_rfl) rfl rfl rfl rfl (by kernel_rfl) (by kernel_rfl) ⟨_, .s rfl rfl rfl, rfl⟩ cf_30 rfl (.c rfl .n) (shop_HoldsN _ x s1 (by omega) (by omega)) fun hv1 => ?_
        refine qm_cat ?_
        refine qm_rd hv1 fun hr1 => ?_
        refine qm_keep ?_
        refine qm_q (i := 26) (l := [.o 21, .o 25, .o 19]) rfl rfl rfl rfl (by kernel_rfl) rfl (fun He => rq_call cf_29 (.s rfl rfl rfl) rfl (.c rfl (by first | exact fun _ => rfl | exact id | exact fun h => (Bool.and_eq_true_iff.1 h).1 | simp_all) (.c rfl (by first | exact fun _ => rfl | exact id | exact fun h => (Bool.and_eq_true_iff.1 h).1 | simp_all) .n)) (fun hg => ref_SameHolds _ _ _ _ s1.holds s1.holds hr1.own hrh.own (by omega))) ?_
        refine qm_q (i := 27) (l := [.o 26, .o 19]) rfl rfl rfl rfl (by kernel_rfl) rfl (fun He => PV.rq (pv_not (.s rfl rfl rfl) rfl rfl (by first | exact fun _ => rfl | exact id | exact fun h => (Bool.and_eq_true_iff.1 h).1 | simp_all))) ?_
        refine qm_q (i := 28) (l := [.o 19, .o 27, .o 13]) rfl rfl rfl rfl (by kernel_rfl) rfl (fun He => PV.rq (pv_or (.s rfl rfl rfl) rfl rfl rfl (by intro hg; refine ⟨?_, fun hc => ?_⟩ <;> first | rfl | (rw [hc]; rfl) | simp_all))) ?_
        refine qm_q (i := 29) (l := [.o 13, .o 28, .o 10]) rfl rfl rfl rfl (by kernel_rfl) rfl (fun He => PV.rq (pv_and (.s rfl rfl rfl) rfl rfl rfl (by intro hg; refine ⟨?_, fun hc => ?_⟩ <;> first | rfl | (rw [hc]; rfl) | simp_all))) ?_
        refine qm_q (i := 30) (l := [.o 10, .o 29]) rfl rfl rfl rfl (by kernel_rfl) rfl (fun He => PV.rq (pv_or (.n rfl) rfl rfl rfl (fun _ => ⟨rfl, fun hc => by first | rfl | (rw [hc]; rfl) | simp_all⟩))) ?_
        refine qm_n (by kernel_rfl) (by kernel_rfl) (by kernel_rfl) (by kernel_rfl) (.c 0 rfl (.c 2 rfl (.c 4 rfl (.c 6 rfl (.c 10 rfl (.c 72 rfl .n)))))) ?_
        refine r_cond _ rfl (fun h11 => ?_) (fun h11 => ?_)
        · simp at h11
        · skip
          refine r_skip ?_
          refine r_seq ?_
          rcases hn : newS no ws with _ | s0
          · skip
            refine r_plan _ [] mo (.c 0 rfl (.c 2 rfl (.c 4 rfl (.c 6 rfl (.c 10 rfl .n))))) Ent.rfl ?_
            refine qm_q (i := 0) (l := [.k 0]) rfl rfl rfl rfl (by kernel_rfl) rfl (fun He => PV.rq (pv_mv (.n rfl) rfl rfl (fun _ => rfl))) ?_
            refine qm_q (i := 1) (l := [.k 6]) rfl rfl rfl rfl (by kernel_rfl) rfl (fun He => RV.rq (q_lda ta_42 (.n rfl) rfl rfl (fun _ => rfl) (by exact (Tk.all (by first | rfl | assumption | (simp only [List.drop_zero, List.length_map]; assumption) | (simp [*]; done)))))) ?_
            refine qm_q (i := 3) (l := [.k 0]) rfl rfl rfl rfl (by kernel_rfl) rfl (fun He => PV.rq (pv_mv (.n rfl) rfl rfl (fun _ => rfl))) ?_
            refine qm_q (i := 4) (l := [.k 6]) rfl rfl rfl rfl (by kernel_rfl) rfl (fun He => RV.rq (q_lda ta_42 (.n rfl) rfl rfl (fun _ => rfl) (by exact (Tk.all (by first | rfl | assumption | (simp only [List.drop_zero, List.length_map]; assumption) | (simp [*]; done)))))) ?_
            refine qm_callc (i := 2) [.o 0, .o 1] (by kernel_rfl) (by kernel_rfl) rfl rfl rfl rfl (by kernel_rfl) (by kernel_rfl) ⟨_, .n rfl, rfl⟩ cf_51 rfl (.c rfl (.c rfl .n)) (keep_New_none _ no ws hws hn) ?_
            refine qb_callc (i := 5) [.o 3, .o 4] (by kernel_rfl) (by kernel_rfl) rfl rfl rfl rfl (by kernel_rfl) (by kernel_rfl) (by kernel_rfl) ⟨_, .n rfl, rfl⟩ cf_52 rfl (.c rfl (.c rfl .n)) (pen_New_none _ no ws hws hn) ?_
            refine qm_q (i := 6) (l := [.o 2]) rfl rfl rfl rfl (by kernel_rfl) rfl (fun He => PV.rq (pv_as (.n rfl) rfl rfl (fun _ => rfl))) ?_
            refine qm_q (i := 7) (l := [.o 5]) rfl rfl rfl rfl (by kernel_rfl) rfl (fun He => PV.rq (pv_as (.n rfl) rfl rfl (fun _ => rfl))) ?_
            refine qm_n (by kernel_rfl) (by kernel_rfl) (by kernel_rfl) (by kernel_rfl) (.c 2 rfl (.c 4 rfl (.c 10 rfl (.c 15 rfl (.c 16 rfl .n))))) ?_
            refine r_seq ?_
            refine r_seq ?_
            refine r_region ?_
            refine p_mv rfl rfl ?_
            refine l_op (x_p (pv_peqn Try.underlying97 (.n rfl) rfl rfl rfl (fun _ => ⟨rfl, rfl⟩)) rfl rfl ?_)
            refine p_mv rfl rfl ?_
            refine l_op (x_p (pv_mv (.s rfl rfl rfl) rfl rfl (by first | exact fun _ => rfl | exact id | exact fun h => (Bool.and_eq_true_iff.1 h).1 | simp_all)) rfl rfl ?_)
            refine l_op (x_p (pv_peqn Try.underlying99 (.s rfl rfl rfl) rfl rfl rfl (by refine fun h => ⟨?_, ?_⟩ <;> first | rfl | exact h | exact (Bool.and_eq_true_iff.1 h).1 | simp_all)) rfl rfl ?_)
            refine l_op (x_p (pv_or (.n rfl) rfl rfl rfl (fun _ => ⟨rfl, fun hc => by first | rfl | (rw [hc]; rfl) | simp_all⟩)) rfl rfl ?_)
            refine o_keep (.c 2 rfl (.c 4 rfl (.c 10 rfl (.c 15 rfl (.c 16 rfl (.c 84 rfl .n)))))) ?_
            refine r_cond _ rfl (fun h12 => ?_) (fun h12 => ?_)
            · skip
              refine r_seq ?_
              refine r_region ?_
              refine p_mv rfl rfl ?_
              refine l_op (x_p (pv_peqn Try.underlying97 (.n rfl) rfl rfl rfl (fun _ => ⟨rfl, rfl⟩)) rfl rfl ?_)
              refine p_mv rfl rfl ?_
              refine l_op (x_p (pv_mv (.s rfl rfl rfl) rfl rfl (by first | exact fun _ => rfl | exact id | exact fun h => (Bool.and_eq_true_iff.1 h).1 | simp_all)) rfl rfl ?_)
              refine l_op (x_p (pv_peqn Try.underlying99 (.s rfl rfl rfl) rfl rfl rfl (by refine fun h => ⟨?_, ?_⟩ <;> first | rfl | exact h | exact (Bool.and_eq_true_iff.1 h).1 | simp_all)) rfl rfl ?_)
              refine l_op (x_p (pv_and (.n rfl) rfl rfl rfl (fun _ => ⟨rfl, fun hc => by first | rfl | (rw [hc]; rfl) | simp_all⟩)) rfl rfl ?_)
              refine p_as rfl rfl ?_
              refine o_keep (.c 2 rfl (.c 4 rfl (.c 10 rfl (.c 15 rfl (.c 16 rfl .n))))) ?_
              refine r_retv hF rfl (.c (.t rfl) .n) ?_ ?_
              · first | exact Ent.rfl | (repeat (first | exact Ent.rfl | refine Ent.c (SelB.ent) ?_ | refine Ent.c (SelS.ent) ?_ | refine Ent.cN ?_ | refine Ent.c (SelX.ent) ?_ | refine Ent.dropR ?_))
              · first | rfl | exact bool_eq (by simp)
            · simp at h12
          · skip
            refine r_plan _ [] mo (.c 0 rfl (.c 2 rfl (.c 4 rfl (.c 6 rfl (.c 10 rfl .n))))) Ent.rfl ?_
            refine qm_q (i := 0) (l := [.k 0]) rfl rfl rfl rfl (by kernel_rfl) rfl (fun He => PV.rq (pv_mv (.n rfl) rfl rfl (fun _ => rfl))) ?_
            refine qm_q (i := 1) (l := [.k 6]) rfl rfl rfl rfl (by kernel_rfl) rfl (fun He => RV.rq (q_lda ta_42 (.n rfl) rfl rfl (fun _ => rfl) (by exact (Tk.all (by first | rfl | assumption | (simp only [List.drop_zero, List.length_map]; assumption) | (simp [*]; done)))))) ?_
            refine qm_q (i := 3) (l := [.k 0]) rfl rfl rfl rfl (by kernel_rfl) rfl (fun He => PV.rq (pv_mv (.n rfl) rfl rfl (fun _ => rfl))) ?_
            refine qm_q (i := 4) (l := [.k 6]) rfl rfl rfl rfl (by kernel_rfl) rfl (fun He => RV.rq (q_lda ta_42 (.n rfl) rfl rfl (fun _ => rfl) (by exact (Tk.all (by first | rfl | assumption | (simp only [List.drop_zero, List.length_map]; assumption) | (simp [*]; done)))))) ?_
            refine qm_calle (i := 2) [.o 0, .o 1] (by kernel_rfl) (by kernel_rfl) rfl rfl rfl rfl (by kernel_rfl) (by kernel_rfl) ⟨_, .n rfl, rfl⟩ cf_51 rfl (.c rfl (.c rfl .n)) (keep_New_some _ no ws hws hn) fun b15 => ?_
            refine qm_cat ?_
            refine qb_calle (i := 5) [.o 3, .o 4] (by kernel_rfl) (by kernel_rfl) rfl rfl rfl rfl (by kernel_rfl) (by kernel_rfl) (by kernel_rfl) ⟨_, .n rfl, rfl⟩ cf_52 rfl (.c rfl (.c rfl .n)) (pen_New_some _ no ws hws hn) fun b16 => ?_
            refine qm_cat ?_
            refine qm_q (i := 6) (l := [.o 2]) rfl rfl rfl rfl (by kernel_rfl) rfl (fun He => PV.rq (pv_as (.n rfl) rfl rfl (fun _ => rfl))) ?_
            refine qm_q (i := 7) (l := [.o 5]) rfl rfl rfl rfl (by kernel_rfl) rfl (fun He => PV.rq (pv_as (.n rfl) rfl rfl (fun _ => rfl))) ?_
            refine qm_n (by kernel_rfl) (by kernel_rfl) (by kernel_rfl) (by kernel_rfl) (.c 2 rfl (.c 4 rfl (.c 10 rfl (.c 15 rfl (.c 16 rfl .n))))) ?_
            refine r_seq ?_
            refine r_seq ?_
            refine r_region ?_
            refine p_mv rfl rfl ?_
            refine l_op (x_p (pv_peqn Try.underlying97 (.n rfl) rfl rfl rfl (fun _ => ⟨rfl, rfl⟩)) rfl rfl ?_)
            refine p_mv rfl rfl ?_
            refine l_op (x_p (pv_mv (.s rfl rfl rfl) rfl rfl (by first | exact fun _ => rfl | exact id | exact fun h => (Bool.and_eq_true_iff.1 h).1 | simp_all)) rfl rfl ?_)
            refine l_op (x_p (pv_peqn Try.underlying99 (.s rfl rfl rfl) rfl rfl rfl (by refine fun h => ⟨?_, ?_⟩ <;> first | rfl | exact h | exact (Bool.and_eq_true_iff.1 h).1 | simp_all)) rfl rfl ?_)
            refine l_op (x_p (pv_or (.n rfl) rfl rfl rfl (fun _ => ⟨rfl, fun hc => by first | rfl | (rw [hc]; rfl) | simp_all⟩)) rfl rfl ?_)
            refine o_keep (.c 2 rfl (.c 4 rfl (.c 10 rfl (.c 15 rfl (.c 16 rfl (.c 84 rfl .n)))))) ?_
            refine r_cond _ rfl (fun h13 => ?_) (fun h13 => ?_)
            · simp at h13
            · skip
              refine r_skip ?_
              refine r_seq ?_
              refine r_seq ?_
              refine r_region ?_
              refine p_as rfl rfl ?_
              refine o_keep (.c 2 rfl (.c 4 rfl (.c 10 rfl (.c 15 rfl (.c 16 rfl (.c 17 rfl .n)))))) ?_
              refine r_block ?_
              refine r_loop_2 (fun (i : Nat) (k : KeepS) => [(17, true, .int .i64 (i : Int))]) (.c 2 rfl (.c 4 rfl (.c 10 rfl (.c 15 rfl (.c 16 rfl .n))))) (fun (i : Nat) (k : KeepS) => keepP b15 k :: penP b16 k :: blk b6 (ws.map vI) 42 :: H) (fun (i : Nat) (k : KeepS) => i ≤ ls.length ∧ KInv k) (fun (i : Nat) (k : KeepS) => ls.length - i) (0) (⟨no, ws, s0, []⟩) ?_ (.c 17 rfl .n) ?_ (fun i k hI => ?_)
              · exact ⟨Nat.zero_le _, (KInv.new (no := no) (ws := ws) (k := ⟨no, ws, s0, []⟩) (by unfold newK; rw [hn]; rfl)).1⟩
              · first | exact Ent.rfl | (repeat (first | exact Ent.rfl | refine Ent.c (SelB.ent) ?_ | refine Ent.c (SelS.ent) ?_ | refine Ent.cN ?_ | refine Ent.c (SelX.ent) ?_ | refine Ent.dropR ?_))
              · skip
                obtain ⟨hil, hK⟩ := hI
                refine r_seq ?_
                refine r_seq ?_
                refine r_region ?_
                refine p_mv rfl rfl ?_
                refine p_mv rfl rfl ?_
                refine l_op (x_p (pv_lens hu.len ⟨_, Try.underlying90⟩ (.n rfl) rfl rfl rfl rfl (fun _ => rfl)) rfl rfl ?_)
                refine p_lss rfl rfl rfl ?_
                refine o_keep (.c 2 rfl (.c 4 rfl (.c 10 rfl (.c 15 rfl (.c 16 rfl (.c 17 rfl (.c 94 rfl .n))))))) ?_
                refine r_cond _ rfl (fun h14 => ?_) (fun h14 => ?_)
                · skip
                  obtain ⟨r, hr⟩ := getlt (l := ls) (i := i) (by have := of_decide_eq_true h14; omega)
                  have hil2 := (List.getElem?_eq_some_iff.1 hr).1
                  refine r_skip ?_
                  refine r_seq ?_
                  refine r_block ?_
                  refine r_seq ?_
                  refine r_seq ?_
                  refine r_plan (_) ([keepP b15 k, penP b16 k]) mo (.c 2 rfl (.c 4 rfl (.c 10 rfl (.c 15 rfl (.c 16 rfl (.c 17 rfl .n)))))) ((Ent.c SelX.ent (Ent.c SelX.ent Ent.rfl))) ?_
                  refine qm_q (i := 0) (l := [.k 15]) rfl rfl rfl rfl (by kernel_rfl) rfl (fun He => PV.rq (pv_mv (.n rfl) rfl rfl (fun _ => rfl))) ?_
                  refine qm_q (i := 1) (l := [.k 2]) rfl rfl rfl rfl (by kernel_rfl) rfl (fun He => PV.rq (pv_mv (.n rfl) rfl rfl (fun _ => rfl))) ?_
                  refine qm_q (i := 2) (l := [.k 17]) rfl rfl rfl rfl (by kernel_rfl) rfl (fun He => PV.rq (pv_mv (.n rfl) rfl rfl (fun _ => rfl))) ?_
                  refine qm_q (i := 3) (l := [.o 1, .o 2]) rfl rfl rfl rfl (by kernel_rfl) rfl (fun He => PV.rq (pv_idx Try.underlying90 (.ofA ta_103) hu (fun hg => ⟨rfl, (mapget hr)⟩) (.n rfl) rfl rfl rfl (fun _ => ⟨rfl, rfl⟩))) ?_
                  refine qm_q (i := 4) (l := [.o 3]) rfl rfl rfl rfl (by kernel_rfl) rfl (fun He => RV.rq (rv_ldats (j := 0) ta_103 (Rd.ent hu (by repeat (first | exact Ent.rfl | exact Ent.one Ent.h | exact Ent.one (SelS.ent) | exact Ent.nil | exact Ent.left | refine Ent.dropR ?_ | refine Ent.tr Ent.skip ?_))) (fun hg => (mapget hr)) (.n rfl) rfl rfl (fun _ => rfl) rfl (.s (.s (.s (.s (.s .z))))))) ?_
                  refine qm_q (i := 6) (l := [.k 16]) rfl rfl rfl rfl (by kernel_rfl) rfl (fun He => PV.rq (pv_mv (.n rfl) rfl rfl (fun _ => rfl))) ?_
                  refine qm_q (i := 7) (l := [.k 2]) rfl rfl rfl rfl (by kernel_rfl) rfl (fun He => PV.rq (pv_mv (.n rfl) rfl rfl (fun _ => rfl))) ?_
                  refine qm_q (i := 8) (l := [.k 17]) rfl rfl rfl rfl (by kernel_rfl) rfl (fun He => PV.rq (pv_mv (.n rfl) rfl rfl (fun _ => rfl))) ?_
                  refine qm_q (i := 9) (l := [.o 7, .o 8]) rfl rfl rfl rfl (by kernel_rfl) rfl (fun He => PV.rq (pv_idx Try.underlying90 (.ofA ta_103) hu (fun hg => ⟨rfl, (mapget hr)⟩) (.n rfl) rfl rfl rfl (fun _ => ⟨rfl, rfl⟩))) ?_
                  refine qm_q (i := 10) (l := [.o 9]) rfl rfl rfl rfl (by kernel_rfl) rfl (fun He => RV.rq (rv_ldats (j := 0) ta_103 (Rd.ent hu (by repeat (first | exact Ent.rfl | exact Ent.one Ent.h | exact Ent.one (SelS.ent) | exact Ent.nil | exact Ent.left | refine Ent.dropR ?_ | refine Ent.tr Ent.skip ?_))) (fun hg => (mapget hr)) (.n rfl) rfl rfl (fun _ => rfl) rfl (.s (.s (.s (.s (.s .z))))))) ?_
                  refine qm_callc (i := 5) [.o 0, .o 4] (by kernel_rfl) (by kernel_rfl) rfl rfl rfl rfl (by kernel_rfl) (by kernel_rfl) ⟨_, .n rfl, rfl⟩ cf_53 rfl (.c rfl (.c rfl .n)) (keep_Do _ b15 k hK r) ?_
                  refine qb_callc (i := 11) [.o 6, .o 10] (by kernel_rfl) (by kernel_rfl) rfl rfl rfl rfl (by kernel_rfl) (by kernel_rfl) (by kernel_rfl) ⟨_, .n rfl, rfl⟩ cf_54 rfl (.c rfl (.c rfl .n)) (pen_Do _ b16 k hK r) ?_
                  refine qm_q (i := 12) (l := [.o 5, .o 11]) rfl rfl rfl rfl (by kernel_rfl) rfl (fun He => PV.rq (pv_neq (.n rfl) rfl rfl rfl (fun _ => ⟨rfl, rfl⟩))) ?_
                  refine qm_n (by kernel_rfl) (by kernel_rfl) (by kernel_rfl) (by kernel_rfl) (.c 2 rfl (.c 4 rfl (.c 10 rfl (.c 15 rfl (.c 16 rfl (.c 17 rfl (.c 109 rfl .n))))))) ?_
                  refine r_cond _ rfl (fun h15 => ?_) (fun h15 => ?_)
                  · simp at h15
                  · skip
                    have hK2 := hK.step r
                    generalize (doK k r).1 = k2 at hK2 ⊢
                    have hj1 := hK2.sh.holds_le
                    have hj2 := hK2.sh.over_le
                    have hj3 := hK2.l_le
                    refine r_skip ?_
                    refine r_seq ?_
                    refine r_seq ?_
                    refine r_region ?_
                    refine p_mv rfl rfl ?_
                    refine p_mv rfl rfl ?_
                    refine p_eql rfl rfl rfl ?_
                    refine o_keep (.c 2 rfl (.c 4 rfl (.c 10 rfl (.c 15 rfl (.c 16 rfl (.c 17 rfl (.c 112 rfl .n))))))) ?_
                    refine r_cond _ rfl (fun h16 => ?_) (fun h16 => ?_)
                    · skip
                      refine r_region ?_
                      refine p_mv rfl rfl ?_
                      refine p_callc cf_55 (.c rfl .n) rfl (keep_Crash _ b15 k2 hK2) ?_
                      refine o_keep (.c 2 rfl (.c 4 rfl (.c 10 rfl (.c 15 rfl (.c 16 rfl (.c 17 rfl .n)))))) ?_
                      refine r_seq ?_
                      refine r_sel (keepP b15 k2) ?_
                      refine r_ex2 fun sb lv => ?_
                      refine r_cat ?_
                      refine r_rd lv fun hrl => ?_
                      refine r_sel (penP b16 k2) ?_
                      refine r_ex2 fun bb pv => ?_
                      refine r_cat ?_
                      refine r_rd pv fun hrp => ?_
                      refine r_sel (boothP bb k2.shop) ?_
                      refine r_ex3 fun hv ov dv => ?_
                      refine r_cat ?_
                      refine r_rd hv fun hrh => ?_
                      refine r_plan _ [] mo (.c 2 rfl (.c 4 rfl (.c 10 rfl (.c 15 rfl (.c 16 rfl (.c 17 rfl .n)))))) Ent.rfl ?_
                      refine qm_q (i := 0) (l := [.k 15]) rfl rfl rfl rfl (by kernel_rfl) rfl (fun He => PV.rq (pv_mv (.n rfl) rfl rfl (fun _ => rfl))) ?_
                      refine qm_q (i := 1) (l := [.o 0]) rfl rfl rfl rfl (by kernel_rfl) rfl (fun He => PV.rq (pv_nilp (.n rfl) rfl rfl (fun _ => rfl))) ?_
                      refine qm_q (i := 2) (l := [.o 1]) rfl rfl rfl rfl (by kernel_rfl) rfl (fun He => PV.rq (pv_fa fa_105_0 (.n rfl) rfl rfl (fun _ => rfl))) ?_
                      refine qm_q (i := 3) (l := [.o 2]) rfl rfl rfl rfl (by kernel_rfl) rfl (fun He => RV.rq (q_ldc tc_44 (.n rfl) rfl rfl (fun _ => rfl) (by rfl))) ?_
                      refine qm_q (i := 4) (l := [.o 3]) rfl rfl rfl rfl (by kernel_rfl) rfl (fun He => rq_call cf_27 (.n rfl) rfl (.c rfl (fun _ => rfl) .n) (fun hg => (shop_Counts _ sb k2.shop).q)) ?_
                      refine qm_q (i := 5) (l := [.k 16]) rfl rfl rfl rfl (by kernel_rfl) rfl (fun He => PV.rq (pv_mv (.n rfl) rfl rfl (fun _ => rfl))) ?_
                      refine qm_q (i := 6) (l := [.o 5]) rfl rfl rfl rfl (by kernel_rfl) rfl (fun He => PV.rq (pv_nilp (.n rfl) rfl rfl (fun _ => rfl))) ?_
                      refine qm_q (i := 7) (l := [.o 6]) rfl rfl rfl rfl (by kernel_rfl) rfl (fun He => PV.rq (pv_fa fa_107_0 (.n rfl) rfl rfl (fun _ => rfl))) ?_
                      refine qm_q (i := 8) (l := [.o 7]) rfl rfl rfl rfl (by kernel_rfl) rfl (fun He => RV.rq (q_ldc tc_45 (.n rfl) rfl rfl (fun _ => rfl) (by rfl))) ?_
                      refine qm_q (i := 9) (l := [.o 8]) rfl rfl rfl rfl (by kernel_rfl) rfl (fun He => rq_call cf_28 (.n rfl) rfl (.c rfl (fun _ => rfl) .n) (fun hg => (booth_Counts_o _ bb k2.shop hK2.sh hv ov dv).q)) ?_
                      refine qm_q (i := 10) (l := [.o 4, .o 9]) rfl rfl rfl rfl (by kernel_rfl) rfl (fun He => PV.rq (pv_to (pv_ane eq_Cnts (.n rfl) rfl rfl rfl (fun _ => ⟨rfl, rfl⟩)) (show _ = Value.bool false by simp))) ?_
                      refine qm_q (i := 11) (l := [.o 10]) rfl rfl rfl rfl (by kernel_rfl) rfl (fun He => PV.rq (pv_mv (.n rfl) rfl rfl (fun _ => rfl))) ?_
                      refine qm_q (i := 12) (l := [.k 15, .o 11]) rfl rfl rfl rfl (by kernel_rfl) rfl (fun He => PV.rq (pv_mv (.s rfl rfl rfl) rfl rfl (by first | exact fun _ => rfl | exact id | exact fun h => (Bool.and_eq_true_iff.1 h).1 | simp_all))) ?_
                      refine qm_q (i := 13) (l := [.o 12, .o 11]) rfl rfl rfl rfl (by kernel_rfl) rfl (fun He => PV.rq (pv_nilp (.s rfl rfl rfl) rfl rfl (by first | exact fun _ => rfl | exact id | exact fun h => (Bool.and_eq_true_iff.1 h).1 | simp_all))) ?_
                      refine qm_q (i := 14) (l := [.o 13, .o 11]) rfl rfl rfl rfl (by kernel_rfl) rfl (fun He => PV.rq (pv_fa fa_105_0 (.s rfl rfl rfl) rfl rfl (by first | exact fun _ => rfl | exact id | exact fun h => (Bool.and_eq_true_iff.1 h).1 | simp_all))) ?_
                      refine qm_q (i := 15) (l := [.o 14, .o 11]) rfl rfl rfl rfl (by kernel_rfl) rfl (fun He => RV.rq (q_ldc tc_44 (.s rfl rfl rfl) rfl rfl (by first | exact fun _ => rfl | exact id | exact fun h => (Bool.and_eq_true_iff.1 h).1 | simp_all) (by rfl))) ?_
                      refine qm_q (i := 17) (l := [.k 16, .o 11]) rfl rfl rfl rfl (by kernel_rfl) rfl (fun He => PV.rq (pv_mv (.s rfl rfl rfl) rfl rfl (by first | exact fun _ => rfl | exact id | exact fun h => (Bool.and_eq_true_iff.1 h).1 | simp_all))) ?_
                      refine qm_q (i := 18) (l := [.o 17, .o 11]) rfl rfl rfl rfl (by kernel_rfl) rfl (fun He => PV.rq (pv_nilp (.s rfl rfl rfl) rfl rfl (by first | exact fun _ => rfl | exact id | exact fun h => (Bool.and_eq_true_iff.1 h).1 | simp_all))) ?_
                      refine qm_q (i := 19) (l := [.o 18, .o 11]) rfl rfl rfl rfl (by kernel_rfl) rfl (fun He => PV.rq (pv_fa fa_107_0 (.s rfl rfl rfl) rfl rfl (by first | exact fun _ => rfl | exact id | exact fun h => (Bool.and_eq_true_iff.1 h).1 | simp_all))) ?_
                      refine qm_q (i := 20) (l := [.o 19, .o 11]) rfl rfl rfl rfl (by kernel_rfl) rfl (fun He => RV.rq (q_ldc tc_45 (.s rfl rfl rfl) rfl rfl (by first | exact fun _ => rfl | exact id | exact fun h => (Bool.and_eq_true_iff.1 h).1 | simp_all) (by rfl))) ?_
                      refine qm_q (i := 21) (l := [.o 20, .o 11]) rfl rfl rfl rfl (by kernel_rfl) rfl (fun He => PV.rq (pv_nilp (.s rfl rfl rfl) rfl rfl (by first | exact fun _ => rfl | exact id | exact fun h => (Bool.and_eq_true_iff.1 h).1 | simp_all))) ?_
                      refine qm_q (i := 22) (l := [.o 21, .o 11]) rfl rfl rfl rfl (by kernel_rfl) rfl (fun He => PV.rq (pv_fa fa_59_2 (.s rfl rfl rfl) rfl rfl (by first | exact fun _ => rfl | exact id | exact fun h => (Bool.and_eq_true_iff.1 h).1 | simp_all))) ?_
                      refine qm_q (i := 23) (l := [.o 22, .o 11]) rfl rfl rfl rfl (by kernel_rfl) rfl (fun He => RV.rq (q_ldc tc_55 (.s rfl rfl rfl) rfl rfl (by first | exact fun _ => rfl | exact id | exact fun h => (Bool.and_eq_true_iff.1 h).1 | simp_all) (by rfl))) ?_
                      refine qm_calln (i := 16) [.o 15, .o 11] (by kernel_rfl) (by kernel_rfl) rfl rfl rfl rfl (by kernel_rfl) (by kernel_rfl) ⟨_, .s rfl rfl rfl, rfl⟩ cf_30 rfl (.c rfl .n) (shop_HoldsN _ sb k2.shop (by omega) (by omega)) fun hv1 => ?_
                      refine qm_cat ?_
                      refine qm_rd hv1 fun hr1 => ?_
                      refine qm_keep ?_
                      refine qm_q (i := 24) (l := [.o 16, .o 23, .o 11]) rfl rfl rfl rfl (by kernel_rfl) rfl (fun He => rq_call cf_29 (.s rfl rfl rfl) rfl (.c rfl (by first | exact fun _ => rfl | exact id | exact fun h => (Bool.and_eq_true_iff.1 h).1 | simp_all) (.c rfl (by first | exact fun _ => rfl | exact id | exact fun h => (Bool.and_eq_true_iff.1 h).1 | simp_all) .n)) (fun hg => fnv_tru (ref_SameHolds _ _ _ _ k2.shop.holds k2.shop.holds hr1.own hrh.own (by omega)))) ?_
                      refine qm_q (i := 25) (l := [.o 24, .o 11]) rfl rfl rfl rfl (by kernel_rfl) rfl (fun He => PV.rq (pv_not (.s rfl rfl rfl) rfl rfl (by first | exact fun _ => rfl | exact id | exact fun h => (Bool.and_eq_true_iff.1 h).1 | simp_all))) ?_
                      refine qm_q (i := 26) (l := [.o 11, .o 25]) rfl rfl rfl rfl (by kernel_rfl) rfl (fun He => PV.rq (pv_or (.n rfl) rfl rfl rfl (fun _ => ⟨rfl, fun hc => by first | rfl | (rw [hc]; rfl) | simp_all⟩))) ?_
                      refine qm_q (i := 27) (l := [.o 26]) rfl rfl rfl rfl (by kernel_rfl) rfl (fun He => PV.rq (pv_mv (.n rfl) rfl rfl (fun _ => rfl))) ?_
                      refine qm_q (i := 28) (l := [.k 15, .o 27]) rfl rfl rfl rfl (by kernel_rfl) rfl (fun He => PV.rq (pv_mv (.s rfl rfl rfl) rfl rfl (by first | exact fun _ => rfl | exact id | exact fun h => (Bool.and_eq_true_iff.1 h).1 | simp_all))) ?_
                      refine qm_q (i := 30) (l := [.k 16, .o 27]) rfl rfl rfl rfl (by kernel_rfl) rfl (fun He => PV.rq (pv_mv (.s rfl rfl rfl) rfl rfl (by first | exact fun _ => rfl | exact id | exact fun h => (Bool.and_eq_true_iff.1 h).1 | simp_all))) ?_
                      refine qm_q (i := 31) (l := [.o 30, .o 27]) rfl rfl rfl rfl (by kernel_rfl) rfl (fun He => PV.rq (pv_nilp (.s rfl rfl rfl) rfl rfl (by first | exact fun _ => rfl | exact id | exact fun h => (Bool.and_eq_true_iff.1 h).1 | simp_all))) ?_
                      refine qm_q (i := 32) (l := [.o 31, .o 27]) rfl rfl rfl rfl (by kernel_rfl) rfl (fun He => PV.rq (pv_fa fa_107_1 (.s rfl rfl rfl) rfl rfl (by first | exact fun _ => rfl | exact id | exact fun h => (Bool.and_eq_true_iff.1 h).1 | simp_all))) ?_
                      refine qm_q (i := 33) (l := [.o 32, .o 27]) rfl rfl rfl rfl (by kernel_rfl) rfl (fun He => RV.rq (q_ldc tc_90 (.s rfl rfl rfl) rfl rfl (by first | exact fun _ => rfl | exact id | exact fun h => (Bool.and_eq_true_iff.1 h).1 | simp_all) (by rfl))) ?_
                      refine qm_calln (i := 29) [.o 28, .o 27] (by kernel_rfl) (by kernel_rfl) rfl rfl rfl rfl (by kernel_rfl) (by kernel_rfl) ⟨_, .s rfl rfl rfl, rfl⟩ cf_57 rfl (.c rfl .n) (keep_Records_oN _ b15 k2 hK2 sb lv) fun rv1 => ?_
                      refine qm_cat ?_
                      refine qm_rd rv1 fun hq1 => ?_
                      refine qm_keep ?_
                      refine qm_q (i := 34) (l := [.o 29, .o 33, .o 27]) rfl rfl rfl rfl (by kernel_rfl) rfl (fun He => rq_call cf_56 (.s rfl rfl rfl) rfl (.c rfl (by first | exact fun _ => rfl | exact id | exact fun h => (Bool.and_eq_true_iff.1 h).1 | simp_all) (.c rfl (by first | exact fun _ => rfl | exact id | exact fun h => (Bool.and_eq_true_iff.1 h).1 | simp_all) .n)) (fun hg => ref_SameRecords _ _ _ _ k2.l k2.l hq1.own hrp.own (by omega))) ?_
                      refine qm_q (i := 35) (l := [.o 34, .o 27]) rfl rfl rfl rfl (by kernel_rfl) rfl (fun He => PV.rq (pv_not (.s rfl rfl rfl) rfl rfl (by first | exact fun _ => rfl | exact id | exact fun h => (Bool.and_eq_true_iff.1 h).1 | simp_all))) ?_
                      refine qm_q (i := 36) (l := [.o 27, .o 35]) rfl rfl rfl rfl (by kernel_rfl) rfl (fun He => PV.rq (pv_or (.n rfl) rfl rfl rfl (fun _ => ⟨rfl, fun hc => by first | rfl | (rw [hc]; rfl) | simp_all⟩))) ?_
                      refine qm_n (by kernel_rfl) (by kernel_rfl) (by kernel_rfl) (by kernel_rfl) (.c 2 rfl (.c 4 rfl (.c 10 rfl (.c 15 rfl (.c 16 rfl (.c 17 rfl (.c 151 rfl .n))))))) ?_
                      refine r_cond _ rfl (fun h17 => ?_) (fun h17 => ?_)
                      · simp at h17
                      · skip
                        refine r_skip ?_
                        refine r_end ?_
                        refine r_region ?_
                        refine p_mv rfl rfl ?_
                        refine p_add rfl rfl (by omega) rfl ?_
                        refine p_as rfl rfl ?_
                        refine o_keep (.c 2 rfl (.c 4 rfl (.c 10 rfl (.c 15 rfl (.c 16 rfl (.c 17 rfl .n)))))) ?_
                        refine r_back_2 (i + 1) (k2) ?_ ?_ (Keep.app (.c 17 rfl .n) (.c 2 rfl (.c 4 rfl (.c 10 rfl (.c 15 rfl (.c 16 rfl .n)))))) ?_
                        · exact ⟨by omega, hK2⟩
                        · omega
                        · refine Ent.tr (boothP_close (b := bb) (s := k2.shop) hv ov dv rfl rfl rfl rfl) ?_; refine Ent.c (keepP_close sb lv rfl rfl) ?_; refine Ent.c (penP_close bb pv rfl rfl) ?_; first | exact Ent.rfl | (repeat (first | exact Ent.rfl | refine Ent.c (SelB.ent) ?_ | refine Ent.c (SelS.ent) ?_ | refine Ent.cN ?_ | refine Ent.c (SelX.ent) ?_ | refine Ent.dropR ?_))
                    · skip
                      refine r_skip ?_
                      refine r_seq ?_
                      refine r_sel (keepP b15 k2) ?_
                      refine r_ex2 fun sb lv => ?_
                      refine r_cat ?_
                      refine r_rd lv fun hrl => ?_
                      refine r_sel (penP b16 k2) ?_
                      refine r_ex2 fun bb pv => ?_
                      refine r_cat ?_
                      refine r_rd pv fun hrp => ?_
                      refine r_sel (boothP bb k2.shop) ?_
                      refine r_ex3 fun hv ov dv => ?_
                      refine r_cat ?_
                      refine r_rd hv fun hrh => ?_
                      refine r_plan _ [] mo (.c 2 rfl (.c 4 rfl (.c 10 rfl (.c 15 rfl (.c 16 rfl (.c 17 rfl .n)))))) Ent.rfl ?_
                      refine qm_q (i := 0) (l := [.k 15]) rfl rfl rfl rfl (by kernel_rfl) rfl (fun He => PV.rq (pv_mv (.n rfl) rfl rfl (fun _ => rfl))) ?_
                      refine qm_q (i := 1) (l := [.o 0]) rfl rfl rfl rfl (by kernel_rfl) rfl (fun He => PV.rq (pv_nilp (.n rfl) rfl rfl (fun _ => rfl))) ?_
                      refine qm_q (i := 2) (l := [.o 1]) rfl rfl rfl rfl (by kernel_rfl) rfl (fun He => PV.rq (pv_fa fa_105_0 (.n rfl) rfl rfl (fun _ => rfl))) ?_
                      refine qm_q (i := 3) (l := [.o 2]) rfl rfl rfl rfl (by kernel_rfl) rfl (fun He => RV.rq (q_ldc tc_44 (.n rfl) rfl rfl (fun _ => rfl) (by rfl))) ?_
                      refine qm_q (i := 4) (l := [.o 3]) rfl rfl rfl rfl (by kernel_rfl) rfl (fun He => rq_call cf_27 (.n rfl) rfl (.c rfl (fun _ => rfl) .n) (fun hg => (shop_Counts _ sb k2.shop).q)) ?_
                      refine qm_q (i := 5) (l := [.k 16]) rfl rfl rfl rfl (by kernel_rfl) rfl (fun He => PV.rq (pv_mv (.n rfl) rfl rfl (fun _ => rfl))) ?_
                      refine qm_q (i := 6) (l := [.o 5]) rfl rfl rfl rfl (by kernel_rfl) rfl (fun He => PV.rq (pv_nilp (.n rfl) rfl rfl (fun _ => rfl))) ?_
                      refine qm_q (i := 7) (l := [.o 6]) rfl rfl rfl rfl (by kernel_rfl) rfl (fun He => PV.rq (pv_fa fa_107_0 (.n rfl) rfl rfl (fun _ => rfl))) ?_
                      refine qm_q (i := 8) (l := [.o 7]) rfl rfl rfl rfl (by kernel_rfl) rfl (fun He => RV.rq (q_ldc tc_45 (.n rfl) rfl rfl (fun _ => rfl) (by rfl))) ?_
                      refine qm_q (i := 9) (l := [.o 8]) rfl rfl rfl rfl (by kernel_rfl) rfl (fun He => rq_call cf_28 (.n rfl) rfl (.c rfl (fun _ => rfl) .n) (fun hg => (booth_Counts_o _ bb k2.shop hK2.sh hv ov dv).q)) ?_
                      refine qm_q (i := 10) (l := [.o 4, .o 9]) rfl rfl rfl rfl (by kernel_rfl) rfl (fun He => PV.rq (pv_to (pv_ane eq_Cnts (.n rfl) rfl rfl rfl (fun _ => ⟨rfl, rfl⟩)) (show _ = Value.bool false by simp))) ?_
                      refine qm_q (i := 11) (l := [.o 10]) rfl rfl rfl rfl (by kernel_rfl) rfl (fun He => PV.rq (pv_mv (.n rfl) rfl rfl (fun _ => rfl))) ?_
                      refine qm_q (i := 12) (l := [.k 15, .o 11]) rfl rfl rfl rfl (by kernel_rfl) rfl (fun He => PV.rq (pv_mv (.s rfl rfl rfl) rfl rfl (by first | exact fun _ => rfl | exact id | exact fun h => (Bool.and_eq_true_iff.1 h).1 | simp_all))) ?_
                      refine qm_q (i := 13) (l := [.o 12, .o 11]) rfl rfl rfl rfl (by kernel_rfl) rfl (fun He => PV.rq (pv_nilp (.s rfl rfl rfl) rfl rfl (by first | exact fun _ => rfl | exact id | exact fun h => (Bool.and_eq_true_iff.1 h).1 | simp_all))) ?_
                      refine qm_q (i := 14) (l := [.o 13, .o 11]) rfl rfl rfl rfl (by kernel_rfl) rfl (fun He => PV.rq (pv_fa fa_105_0 (.s rfl rfl rfl) rfl rfl (by first | exact fun _ => rfl | exact id | exact fun h => (Bool.and_eq_true_iff.1 h).1 | simp_all))) ?_
                      refine qm_q (i := 15) (l := [.o 14, .o 11]) rfl rfl rfl rfl (by kernel_rfl) rfl (fun He => RV.rq (q_ldc tc_44 (.s rfl rfl rfl) rfl rfl (by first | exact fun _ => rfl | exact id | exact fun h => (Bool.and_eq_true_iff.1 h).1 | simp_all) (by rfl))) ?_
                      refine qm_q (i := 17) (l := [.k 16, .o 11]) rfl rfl rfl rfl (by kernel_rfl) rfl (fun He => PV.rq (pv_mv (.s rfl rfl rfl) rfl rfl (by first | exact fun _ => rfl | exact id | exact fun h => (Bool.and_eq_true_iff.1 h).1 | simp_all))) ?_
                      refine qm_q (i := 18) (l := [.o 17, .o 11]) rfl rfl rfl rfl (by kernel_rfl) rfl (fun He => PV.rq (pv_nilp (.s rfl rfl rfl) rfl rfl (by first | exact fun _ => rfl | exact id | exact fun h => (Bool.and_eq_true_iff.1 h).1 | simp_all))) ?_
                      refine qm_q (i := 19) (l := [.o 18, .o 11]) rfl rfl rfl rfl (by kernel_rfl) rfl (fun He => PV.rq (pv_fa fa_107_0 (.s rfl rfl rfl) rfl rfl (by first | exact fun _ => rfl | exact id | exact fun h => (Bool.and_eq_true_iff.1 h).1 | simp_all))) ?_
                      refine qm_q (i := 20) (l := [.o 19, .o 11]) rfl rfl rfl rfl (by kernel_rfl) rfl (fun He => RV.rq (q_ldc tc_45 (.s rfl rfl rfl) rfl rfl (by first | exact fun _ => rfl | exact id | exact fun h => (Bool.and_eq_true_iff.1 h).1 | simp_all) (by rfl))) ?_
                      refine qm_q (i := 21) (l := [.o 20, .o 11]) rfl rfl rfl rfl (by kernel_rfl) rfl (fun He => PV.rq (pv_nilp (.s rfl rfl rfl) rfl rfl (by first | exact fun _ => rfl | exact id | exact fun h => (Bool.and_eq_true_iff.1 h).1 | simp_all))) ?_
                      refine qm_q (i := 22) (l := [.o 21, .o 11]) rfl rfl rfl rfl (by kernel_rfl) rfl (fun He => PV.rq (pv_fa fa_59_2 (.s rfl rfl rfl) rfl rfl (by first | exact fun _ => rfl | exact id | exact fun h => (Bool.and_eq_true_iff.1 h).1 | simp_all))) ?_
                      refine qm_q (i := 23) (l := [.o 22, .o 11]) rfl rfl rfl rfl (by kernel_rfl) rfl (fun He => RV.rq (q_ldc tc_55 (.s rfl rfl rfl) rfl rfl (by first | exact fun _ => rfl | exact id | exact fun h => (Bool.and_eq_true_iff.1 h).1 | simp_all) (by rfl))) ?_
                      refine qm_calln (i := 16) [.o 15, .o 11] (by kernel_rfl) (by kernel_rfl) rfl rfl rfl rfl (by kernel_rfl) (by kernel_rfl) ⟨_, .s rfl rfl rfl, rfl⟩ cf_30 rfl (.c rfl .n) (shop_HoldsN _ sb k2.shop (by omega) (by omega)) fun hv1 => ?_
                      refine qm_cat ?_
                      refine qm_rd hv1 fun hr1 => ?_
                      refine qm_keep ?_
                      refine qm_q (i := 24) (l := [.o 16, .o 23, .o 11]) rfl rfl rfl rfl (by kernel_rfl) rfl (fun He => rq_call cf_29 (.s rfl rfl rfl) rfl (.c rfl (by first | exact fun _ => rfl | exact id | exact fun h => (Bool.and_eq_true_iff.1 h).1 | simp_all) (.c rfl (by first | exact fun _ => rfl | exact id | exact fun h => (Bool.and_eq_true_iff.1 h).1 | simp_all) .n)) (fun hg => fnv_tru (ref_SameHolds _ _ _ _ k2.shop.holds k2.shop.holds hr1.own hrh.own (by omega)))) ?_
                      refine qm_q (i := 25) (l := [.o 24, .o 11]) rfl rfl rfl rfl (by kernel_rfl) rfl (fun He => PV.rq (pv_not (.s rfl rfl rfl) rfl rfl (by first | exact fun _ => rfl | exact id | exact fun h => (Bool.and_eq_true_iff.1 h).1 | simp_all))) ?_
                      refine qm_q (i := 26) (l := [.o 11, .o 25]) rfl rfl rfl rfl (by kernel_rfl) rfl (fun He => PV.rq (pv_or (.n rfl) rfl rfl rfl (fun _ => ⟨rfl, fun hc => by first | rfl | (rw [hc]; rfl) | simp_all⟩))) ?_
                      refine qm_q (i := 27) (l := [.o 26]) rfl rfl rfl rfl (by kernel_rfl) rfl (fun He => PV.rq (pv_mv (.n rfl) rfl rfl (fun _ => rfl))) ?_
                      refine qm_q (i := 28) (l := [.k 15, .o 27]) rfl rfl rfl rfl (by kernel_rfl) rfl (fun He => PV.rq (pv_mv (.s rfl rfl rfl) rfl rfl (by first | exact fun _ => rfl | exact id | exact fun h => (Bool.and_eq_true_iff.1 h).1 | simp_all))) ?_
                      refine qm_q (i := 30) (l := [.k 16, .o 27]) rfl rfl rfl rfl (by kernel_rfl) rfl (fun He => PV.rq (pv_mv (.s rfl rfl rfl) rfl rfl (by first | exact fun _ => rfl | exact id | exact fun h => (Bool.and_eq_true_iff.1 h).1 | simp_all))) ?_
                      refine qm_q (i := 31) (l := [.o 30, .o 27]) rfl rfl rfl rfl (by kernel_rfl) rfl (fun He => PV.rq (pv_nilp (.s rfl rfl rfl) rfl rfl (by first | exact fun _ => rfl | exact id | exact fun h => (Bool.and_eq_true_iff.1 h).1 | simp_all))) ?_
                      refine qm_q (i := 32) (l := [.o 31, .o 27]) rfl rfl rfl rfl (by kernel_rfl) rfl (fun He => PV.rq (pv_fa fa_107_1 (.s rfl rfl rfl) rfl rfl (by first | exact fun _ => rfl | exact id | exact fun h => (Bool.and_eq_true_iff.1 h).1 | simp_all))) ?_
                      refine qm_q (i := 33) (l := [.o 32, .o 27]) rfl rfl rfl rfl (by kernel_rfl) rfl (fun He => RV.rq (q_ldc tc_90 (.s rfl rfl rfl) rfl rfl (by first | exact fun _ => rfl | exact id | exact fun h => (Bool.and_eq_true_iff.1 h).1 | simp_all) (by rfl))) ?_
                      refine qm_calln (i := 29) [.o 28, .o 27] (by kernel_rfl) (by kernel_rfl) rfl rfl rfl rfl (by kernel_rfl) (by kernel_rfl) ⟨_, .s rfl rfl rfl, rfl⟩ cf_57 rfl (.c rfl .n) (keep_Records_oN _ b15 k2 hK2 sb lv) fun rv1 => ?_
                      refine qm_cat ?_
                      refine qm_rd rv1 fun hq1 => ?_
                      refine qm_keep ?_
                      refine qm_q (i := 34) (l := [.o 29, .o 33, .o 27]) rfl rfl rfl rfl (by kernel_rfl) rfl (fun He => rq_call cf_56 (.s rfl rfl rfl) rfl (.c rfl (by first | exact fun _ => rfl | exact id | exact fun h => (Bool.and_eq_true_iff.1 h).1 | simp_all) (.c rfl (by first | exact fun _ => rfl | exact id | exact fun h => (Bool.and_eq_true_iff.1 h).1 | simp_all) .n)) (fun hg => ref_SameRecords _ _ _ _ k2.l k2.l hq1.own hrp.own (by omega))) ?_
                      refine qm_q (i := 35) (l := [.o 34, .o 27]) rfl rfl rfl rfl (by kernel_rfl) rfl (fun He => PV.rq (pv_not (.s rfl rfl rfl) rfl rfl (by first | exact fun _ => rfl | exact id | exact fun h => (Bool.and_eq_true_iff.1 h).1 | simp_all))) ?_
                      refine qm_q (i := 36) (l := [.o 27, .o 35]) rfl rfl rfl rfl (by kernel_rfl) rfl (fun He => PV.rq (pv_or (.n rfl) rfl rfl rfl (fun _ => ⟨rfl, fun hc => by first | rfl | (rw [hc]; rfl) | simp_all⟩))) ?_
                      refine qm_n (by kernel_rfl) (by kernel_rfl) (by kernel_rfl) (by kernel_rfl) (.c 2 rfl (.c 4 rfl (.c 10 rfl (.c 15 rfl (.c 16 rfl (.c 17 rfl (.c 151 rfl .n))))))) ?_
                      refine r_cond _ rfl (fun h18 => ?_) (fun h18 => ?_)
                      · simp at h18
                      · skip
                        refine r_skip ?_
                        refine r_end ?_
                        refine r_region ?_
                        refine p_mv rfl rfl ?_
                        refine p_add rfl rfl (by omega) rfl ?_
                        refine p_as rfl rfl ?_
                        refine o_keep (.c 2 rfl (.c 4 rfl (.c 10 rfl (.c 15 rfl (.c 16 rfl (.c 17 rfl .n)))))) ?_
                        refine r_back_2 (i + 1) (k2) ?_ ?_ (Keep.app (.c 17 rfl .n) (.c 2 rfl (.c 4 rfl (.c 10 rfl (.c 15 rfl (.c 16 rfl .n)))))) ?_
                        · exact ⟨by omega, hK2⟩
                        · omega
                        · refine Ent.tr (boothP_close (b := bb) (s := k2.shop) hv ov dv rfl rfl rfl rfl) ?_; refine Ent.c (keepP_close sb lv rfl rfl) ?_; refine Ent.c (penP_close bb pv rfl rfl) ?_; first | exact Ent.rfl | (repeat (first | exact Ent.rfl | refine Ent.c (SelB.ent) ?_ | refine Ent.c (SelS.ent) ?_ | refine Ent.cN ?_ | refine Ent.c (SelX.ent) ?_ | refine Ent.dropR ?_))
                · skip
                  refine r_exit rfl ?_
                  refine r_seq ?_
                  refine r_region ?_
                  refine p_as rfl rfl ?_
                  refine o_keep (.c 10 rfl .n) ?_
                  refine r_retv hF rfl (.c (.t rfl) .n) ?_ ?_
                  · first | exact Ent.rfl | (repeat (first | exact Ent.rfl | refine Ent.c (SelB.ent) ?_ | refine Ent.c (SelS.ent) ?_ | refine Ent.cN ?_ | refine Ent.c (SelX.ent) ?_ | refine Ent.dropR ?_))
                  · first | rfl | exact bool_eq (by simp)

end Go.Proofs.Ytmakdilmibjpbab
