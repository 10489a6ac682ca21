/- The walks of CountLaws: written by a program of ours (gen.py) over the engine. -/
import Derived.Test.YtmakdilmibjpbaaPlain
import Derived.Test.YtmakdilmibjpbaaFacts
import Derived.Test.YtmakdilmibjpbaaCount
namespace Go.Proofs.Ytmakdilmibjpbaa
open Go Go.RowKit
set_option linter.unusedVariables false
set_option linter.unusedSimpArgs false

theorem eq_Count {v o i v' o' i' : Int} : EqT Try.prog 45 [.int .i64 v, .int .i64 o, .int .i64 i] [.int .i64 v', .int .i64 o', .int .i64 i'] (decide (v = v') && (decide (o = o') && decide (i = i'))) :=
  ⟨Try.eqGuardType45, fun w => by
    rw [show (10000 : Nat) = 9998 + 1 + 1 from rfl, run_equalIn_agg w _ _ _ _ Try.underlying45 Try.stoodInHeld45]
    by_cases h1 : v = v' <;> by_cases h2 : o = o' <;> by_cases h3 : i = i' <;> simp [Program.fieldsOf, Op.eqFields, part, run_equalIn_int w _ _ _ _ _ _ Try.underlying3, h1, h2, h3]⟩

theorem law_countBegun (M : Amb) (H : List HP)  : FnV Try.prog M H 25 [] (.bool true) := by
  refine fn_intro Try.func25 rfl Try.ntmps25 rfl fun F hF => ?_
  refine r_seq ?_
  refine r_region ?_
  refine p_as rfl rfl ?_
  refine o_keep (.c 0 rfl .n) ?_
  refine r_seq ?_
  refine r_region ?_
  refine p_build zr_45 pl_45 (.c rfl (fun _ => rfl) rfl rfl rfl (by repeat constructor) .n) rfl ?_
  refine p_alloc zr_45 rfl fun b1 => ?_
  refine p_store (.ofA ta_45) rfl rfl rfl rfl rfl (by repeat constructor) ?_
  refine o_keep (.c 0 rfl (.c 1 rfl .n)) ?_
  refine r_seq ?_
  refine r_region ?_
  refine p_lda ta_45 rfl (by exact (.s (.s (.s .z)))) rfl ?_
  refine p_callv cf_26 (.c rfl (.c rfl .n)) rfl (count_Hold _ _ _ _ _ _) ?_
  refine p_mv rfl rfl ?_
  refine p_ext rfl rfl rfl ?_
  refine p_ext rfl rfl rfl ?_
  refine p_alloc zr_45 rfl fun b2 => ?_
  refine p_store (.ofA ta_45) rfl rfl rfl rfl rfl (by repeat constructor) ?_
  refine p_as rfl rfl ?_
  refine o_keep (.c 0 rfl (.c 2 rfl (.c 3 rfl .n))) ?_
  refine r_seq ?_
  refine r_region ?_
  refine p_lda ta_45 rfl (by exact (.s (.s (.s .z)))) rfl ?_
  refine p_callv cf_26 (.c rfl (.c rfl .n)) rfl (count_Hold _ _ _ _ _ _) ?_
  refine p_mv rfl rfl ?_
  refine p_ext rfl rfl rfl ?_
  refine p_ext rfl rfl rfl ?_
  refine p_alloc zr_45 rfl fun b4 => ?_
  refine p_store (.ofA ta_45) rfl rfl rfl rfl rfl (by repeat constructor) ?_
  refine p_as rfl rfl ?_
  refine o_keep (.c 0 rfl (.c 2 rfl (.c 3 rfl (.c 5 rfl .n)))) ?_
  refine r_seq ?_
  refine r_region ?_
  refine p_lda ta_45 rfl (by exact (.s (.s (.s .z)))) rfl ?_
  refine p_callv cf_26 (.c rfl (.c rfl .n)) rfl (count_Hold _ _ _ _ _ _) ?_
  refine p_mv rfl rfl ?_
  refine p_ext rfl rfl rfl ?_
  refine p_ext rfl rfl rfl ?_
  refine p_alloc zr_45 rfl fun b6 => ?_
  refine p_store (.ofA ta_45) rfl rfl rfl rfl rfl (by repeat constructor) ?_
  refine p_as rfl rfl ?_
  refine o_keep (.c 0 rfl (.c 2 rfl (.c 3 rfl (.c 5 rfl (.c 6 rfl (.c 7 rfl .n)))))) ?_
  refine r_seq ?_
  refine r_region ?_
  refine p_lda ta_45 rfl (by exact (.s (.s (.s .z)))) rfl ?_
  refine p_callv cf_28 (.c rfl (.c rfl (.c rfl .n))) rfl (count_End _ _ _ _ _ _ _) ?_
  refine p_mv rfl rfl ?_
  refine p_ext rfl rfl rfl ?_
  refine p_ext rfl rfl rfl ?_
  refine p_alloc zr_45 rfl fun b8 => ?_
  refine p_store (.ofA ta_45) rfl rfl rfl rfl rfl (by repeat constructor) ?_
  refine p_as rfl rfl ?_
  refine o_keep (.c 0 rfl (.c 2 rfl (.c 3 rfl (.c 5 rfl (.c 6 rfl (.c 7 rfl (.c 8 rfl (.c 9 rfl .n)))))))) ?_
  refine r_seq ?_
  refine r_region ?_
  refine p_mv rfl rfl ?_
  refine p_eql rfl rfl rfl ?_
  refine p_mv rfl rfl ?_
  refine l_op (x_p (pv_mv (.s rfl rfl rfl) rfl rfl (by first | exact fun _ => rfl | exact id | exact fun h => (Bool.and_eq_true_iff.1 h).1 | simp_all)) rfl rfl ?_)
  refine l_op (x_p (pv_eql (.s rfl rfl rfl) rfl rfl rfl (by refine fun h => ⟨?_, ?_⟩ <;> first | rfl | exact h | exact (Bool.and_eq_true_iff.1 h).1 | simp_all)) rfl rfl ?_)
  refine l_op (x_p (pv_and (.n rfl) rfl rfl rfl (fun _ => ⟨rfl, fun hc => by first | rfl | (rw [hc]; rfl) | simp_all⟩)) rfl rfl ?_)
  refine p_mv rfl rfl ?_
  refine l_op (x_p (pv_mv (.s rfl rfl rfl) rfl rfl (by first | exact fun _ => rfl | exact id | exact fun h => (Bool.and_eq_true_iff.1 h).1 | simp_all)) rfl rfl ?_)
  refine l_op (x_p (pv_eql (.s rfl rfl rfl) rfl rfl rfl (by refine fun h => ⟨?_, ?_⟩ <;> first | rfl | exact h | exact (Bool.and_eq_true_iff.1 h).1 | simp_all)) rfl rfl ?_)
  refine l_op (x_p (pv_and (.n rfl) rfl rfl rfl (fun _ => ⟨rfl, fun hc => by first | rfl | (rw [hc]; rfl) | simp_all⟩)) rfl rfl ?_)
  refine p_mv rfl rfl ?_
  refine l_op (x_p (pv_mv (.s rfl rfl rfl) rfl rfl (by first | exact fun _ => rfl | exact id | exact fun h => (Bool.and_eq_true_iff.1 h).1 | simp_all)) rfl rfl ?_)
  refine l_op (x_p (pv_eql (.s rfl rfl rfl) rfl rfl rfl (by refine fun h => ⟨?_, ?_⟩ <;> first | rfl | exact h | exact (Bool.and_eq_true_iff.1 h).1 | simp_all)) rfl rfl ?_)
  refine l_op (x_p (pv_and (.n rfl) rfl rfl rfl (fun _ => ⟨rfl, fun hc => by first | rfl | (rw [hc]; rfl) | simp_all⟩)) rfl rfl ?_)
  refine p_mv rfl rfl ?_
  refine l_op (x_p (pv_fa fa_45_1 (.s rfl rfl rfl) rfl rfl (by first | exact fun _ => rfl | exact id | exact fun h => (Bool.and_eq_true_iff.1 h).1 | simp_all)) rfl rfl ?_)
  refine l_op (x_r (q_ldc tc_3 (.s rfl rfl rfl) rfl rfl (by first | exact fun _ => rfl | exact id | exact fun h => (Bool.and_eq_true_iff.1 h).1 | simp_all) (by rfl)) rfl rfl ?_)
  refine l_op (x_p (pv_eql (.s rfl rfl rfl) rfl rfl rfl (by refine fun h => ⟨?_, ?_⟩ <;> first | rfl | exact h | exact (Bool.and_eq_true_iff.1 h).1 | simp_all)) rfl rfl ?_)
  refine l_op (x_p (pv_and (.n rfl) rfl rfl rfl (fun _ => ⟨rfl, fun hc => by first | rfl | (rw [hc]; rfl) | simp_all⟩)) rfl rfl ?_)
  refine p_mv rfl rfl ?_
  refine l_op (x_p (pv_fa fa_45_2 (.s rfl rfl rfl) rfl rfl (by first | exact fun _ => rfl | exact id | exact fun h => (Bool.and_eq_true_iff.1 h).1 | simp_all)) rfl rfl ?_)
  refine l_op (x_r (q_ldc tc_3 (.s rfl rfl rfl) rfl rfl (by first | exact fun _ => rfl | exact id | exact fun h => (Bool.and_eq_true_iff.1 h).1 | simp_all) (by rfl)) rfl rfl ?_)
  refine l_op (x_p (pv_eql (.s rfl rfl rfl) rfl rfl rfl (by refine fun h => ⟨?_, ?_⟩ <;> first | rfl | exact h | exact (Bool.and_eq_true_iff.1 h).1 | simp_all)) rfl rfl ?_)
  refine l_op (x_p (pv_and (.n rfl) rfl rfl rfl (fun _ => ⟨rfl, fun hc => by first | rfl | (rw [hc]; rfl) | simp_all⟩)) rfl rfl ?_)
  refine p_mv rfl rfl ?_
  refine l_op (x_r (q_lda ta_45 (.s rfl rfl rfl) rfl rfl (by first | exact fun _ => rfl | exact id | exact fun h => (Bool.and_eq_true_iff.1 h).1 | simp_all) (by exact (.s (.s (.s .z))))) rfl rfl ?_)
  refine l_op (x_p (pv_build zr_45 pl_45 (.s rfl rfl rfl) rfl (.c rfl (by first | exact fun _ => rfl | exact id | exact fun h => (Bool.and_eq_true_iff.1 h).1 | simp_all) rfl rfl rfl (by repeat constructor) (.c rfl (by first | exact fun _ => rfl | exact id | exact fun h => (Bool.and_eq_true_iff.1 h).1 | simp_all) rfl rfl rfl (by repeat constructor) .n))) rfl rfl ?_)
  refine l_op (x_p (pv_aeq (eq_Count) (.s rfl rfl rfl) rfl rfl rfl (by refine fun h => ⟨?_, ?_⟩ <;> first | rfl | exact h | exact (Bool.and_eq_true_iff.1 h).1 | simp_all)) rfl rfl ?_)
  refine l_op (x_p (pv_and (.n rfl) rfl rfl rfl (fun _ => ⟨rfl, fun hc => by first | rfl | (rw [hc]; rfl) | simp_all⟩)) rfl rfl ?_)
  refine p_mv rfl rfl ?_
  refine l_op (x_r (q_lda ta_45 (.s rfl rfl rfl) rfl rfl (by first | exact fun _ => rfl | exact id | exact fun h => (Bool.and_eq_true_iff.1 h).1 | simp_all) (by exact (.s (.s (.s .z))))) rfl rfl ?_)
  refine l_op (x_q (rq_call cf_34 (.s rfl rfl rfl) rfl (.c rfl (by first | exact fun _ => rfl | exact id | exact fun h => (Bool.and_eq_true_iff.1 h).1 | simp_all) .n) (fun hg => count_Low _ _ _ _ _ (by decide))) rfl rfl ?_)
  refine l_op (x_p (pv_eql (.s rfl rfl rfl) rfl rfl rfl (by refine fun h => ⟨?_, ?_⟩ <;> first | rfl | exact h | exact (Bool.and_eq_true_iff.1 h).1 | simp_all)) rfl rfl ?_)
  refine l_op (x_p (pv_and (.n rfl) rfl rfl rfl (fun _ => ⟨rfl, fun hc => by first | rfl | (rw [hc]; rfl) | simp_all⟩)) rfl rfl ?_)
  refine p_mv rfl rfl ?_
  refine l_op (x_r (q_lda ta_45 (.s rfl rfl rfl) rfl rfl (by first | exact fun _ => rfl | exact id | exact fun h => (Bool.and_eq_true_iff.1 h).1 | simp_all) (by exact (.s (.s (.s .z))))) rfl rfl ?_)
  refine l_op (x_q (rq_call cf_35 (.s rfl rfl rfl) rfl (.c rfl (by first | exact fun _ => rfl | exact id | exact fun h => (Bool.and_eq_true_iff.1 h).1 | simp_all) .n) (fun hg => count_High _ _ _ _ _ (by decide))) rfl rfl ?_)
  refine l_op (x_p (pv_eql (.s rfl rfl rfl) rfl rfl rfl (by refine fun h => ⟨?_, ?_⟩ <;> first | rfl | exact h | exact (Bool.and_eq_true_iff.1 h).1 | simp_all)) rfl rfl ?_)
  refine l_op (x_p (pv_and (.n rfl) rfl rfl rfl (fun _ => ⟨rfl, fun hc => by first | rfl | (rw [hc]; rfl) | simp_all⟩)) rfl rfl ?_)
  refine p_mv rfl rfl ?_
  refine l_op (x_r (q_lda ta_45 (.s rfl rfl rfl) rfl rfl (by first | exact fun _ => rfl | exact id | exact fun h => (Bool.and_eq_true_iff.1 h).1 | simp_all) (by exact (.s (.s (.s .z))))) rfl rfl ?_)
  refine l_op (x_q (rq_call cf_30 (.s rfl rfl rfl) rfl (.c rfl (by first | exact fun _ => rfl | exact id | exact fun h => (Bool.and_eq_true_iff.1 h).1 | simp_all) .n) (fun hg => count_Check _ _ _ _ _)) rfl rfl ?_)
  refine l_op (x_p (pv_eql (.s rfl rfl rfl) rfl rfl rfl (by refine fun h => ⟨?_, ?_⟩ <;> first | rfl | exact h | exact (Bool.and_eq_true_iff.1 h).1 | simp_all)) rfl rfl ?_)
  refine l_op (x_p (pv_and (.n rfl) rfl rfl rfl (fun _ => ⟨rfl, fun hc => by first | rfl | (rw [hc]; rfl) | simp_all⟩)) rfl rfl ?_)
  refine p_mv rfl rfl ?_
  refine l_op (x_q (rq_call cf_32 (.s rfl rfl rfl) rfl (.c rfl (by first | exact fun _ => rfl | exact id | exact fun h => (Bool.and_eq_true_iff.1 h).1 | simp_all) .n) (fun hg => count_Delta _ _ _)) rfl rfl ?_)
  refine l_op (x_p (pv_eql (.s rfl rfl rfl) rfl rfl rfl (by refine fun h => ⟨?_, ?_⟩ <;> first | rfl | exact h | exact (Bool.and_eq_true_iff.1 h).1 | simp_all)) rfl rfl ?_)
  refine l_op (x_p (pv_and (.n rfl) rfl rfl rfl (fun _ => ⟨rfl, fun hc => by first | rfl | (rw [hc]; rfl) | simp_all⟩)) rfl rfl ?_)
  refine p_as rfl rfl ?_
  refine o_keep (.c 0 rfl .n) ?_
  refine r_retv hF rfl (.c (.t rfl) .n) ?_ ?_
  · first | exact Ent.rfl | (repeat (first | exact Ent.rfl | refine Ent.c (SelB.ent) ?_ | refine Ent.c (SelS.ent) ?_ | refine Ent.cN ?_ | refine Ent.c (SelX.ent) ?_ | refine Ent.dropR ?_))
  · rfl

theorem law_CountDoes (M : Amb) (H : List HP) (v o i n : Int) (d : Bool) : FnV Try.prog M H 6 [.agg #[.int .i64 v, .int .i64 o, .int .i64 i], .int .i64 n, .bool d] (.bool true) := by
  refine fn_intro Try.func6 rfl Try.ntmps6 rfl fun F hF => ?_
  refine r_seq ?_
  refine r_region ?_
  refine p_box rfl rfl rfl fun b3 => ?_
  refine p_as rfl rfl ?_
  refine o_keep (.c 1 rfl (.c 2 rfl (.c 3 rfl (.c 6 rfl .n)))) ?_
  refine r_seq ?_
  refine r_seq ?_
  refine r_region ?_
  refine p_callv cf_25 (.n) rfl (law_countBegun _ _) ?_
  refine p_not rfl rfl ?_
  refine o_keep (.c 1 rfl (.c 2 rfl (.c 3 rfl (.c 6 rfl (.c 16 rfl .n))))) ?_
  refine r_cond _ rfl (fun h1 => ?_) (fun h1 => ?_)
  · simp at h1
  · try simp at h1
    refine r_skip ?_
    refine r_seq ?_
    refine r_region ?_
    refine p_lda ta_45 rfl (by exact (.s (.s (.s .z)))) rfl ?_
    refine p_mv rfl rfl ?_
    refine p_callv cf_26 (.c rfl (.c rfl .n)) rfl (count_Hold _ _ _ _ _ _) ?_
    refine p_mv rfl rfl ?_
    refine p_ext rfl rfl rfl ?_
    refine p_ext rfl rfl rfl ?_
    refine p_alloc zr_45 rfl fun b7 => ?_
    refine p_store (.ofA ta_45) rfl rfl rfl rfl rfl (by repeat constructor) ?_
    refine p_as rfl rfl ?_
    refine o_keep (.c 1 rfl (.c 2 rfl (.c 3 rfl (.c 6 rfl (.c 7 rfl (.c 8 rfl .n)))))) ?_
    refine r_seq ?_
    refine r_region ?_
    refine p_lda ta_45 rfl (by exact (.s (.s (.s .z)))) rfl ?_
    refine p_mv rfl rfl ?_
    refine p_callv cf_27 (.c rfl (.c rfl .n)) rfl (ref_Held _ _ _ _ _ _) ?_
    refine p_mv rfl rfl ?_
    refine p_ext rfl rfl rfl ?_
    refine p_ext rfl rfl rfl ?_
    refine p_alloc zr_45 rfl fun b9 => ?_
    refine p_store (.ofA ta_45) rfl rfl rfl rfl rfl (by repeat constructor) ?_
    refine p_as rfl rfl ?_
    refine o_keep (.c 1 rfl (.c 2 rfl (.c 3 rfl (.c 6 rfl (.c 7 rfl (.c 8 rfl (.c 9 rfl (.c 10 rfl .n)))))))) ?_
    refine r_seq ?_
    refine r_region ?_
    refine p_lda ta_45 rfl (by exact (.s (.s (.s .z)))) rfl ?_
    refine p_mv rfl rfl ?_
    refine p_mv rfl rfl ?_
    refine p_callv cf_28 (.c rfl (.c rfl (.c rfl .n))) rfl (count_End _ _ _ _ _ _ _) ?_
    refine p_mv rfl rfl ?_
    refine p_ext rfl rfl rfl ?_
    refine p_ext rfl rfl rfl ?_
    refine p_alloc zr_45 rfl fun b11 => ?_
    refine p_store (.ofA ta_45) rfl rfl rfl rfl rfl (by repeat constructor) ?_
    refine p_as rfl rfl ?_
    refine o_keep (.c 1 rfl (.c 2 rfl (.c 3 rfl (.c 6 rfl (.c 7 rfl (.c 8 rfl (.c 9 rfl (.c 10 rfl (.c 11 rfl (.c 12 rfl .n)))))))))) ?_
    refine r_seq ?_
    refine r_region ?_
    refine p_lda ta_45 rfl (by exact (.s (.s (.s .z)))) rfl ?_
    refine p_mv rfl rfl ?_
    refine p_mv rfl rfl ?_
    refine p_callv cf_29 (.c rfl (.c rfl (.c rfl .n))) rfl (ref_Ended _ _ _ _ _ _ _) ?_
    refine p_mv rfl rfl ?_
    refine p_ext rfl rfl rfl ?_
    refine p_ext rfl rfl rfl ?_
    refine p_alloc zr_45 rfl fun b13 => ?_
    refine p_store (.ofA ta_45) rfl rfl rfl rfl rfl (by repeat constructor) ?_
    refine p_as rfl rfl ?_
    refine o_keep (.c 1 rfl (.c 3 rfl (.c 6 rfl (.c 7 rfl (.c 8 rfl (.c 9 rfl (.c 10 rfl (.c 11 rfl (.c 12 rfl (.c 13 rfl (.c 14 rfl .n))))))))))) ?_
    refine r_seq ?_
    refine r_seq ?_
    refine r_plan _ [] mo (.c 1 rfl (.c 3 rfl (.c 6 rfl (.c 7 rfl (.c 8 rfl (.c 9 rfl (.c 10 rfl (.c 11 rfl (.c 12 rfl (.c 13 rfl (.c 14 rfl .n))))))))))) Ent.rfl ?_
    refine qm_q (i := 0) (l := [.k 3]) rfl rfl rfl rfl (by kernel_rfl) rfl (fun He => RV.rq (q_lda ta_45 (.n rfl) rfl rfl (fun _ => rfl) (by exact (.s (.s (.s .z)))))) ?_
    refine qm_q (i := 1) (l := [.o 0]) rfl rfl rfl rfl (by kernel_rfl) rfl (fun He => rq_call cf_30 (.n rfl) rfl (.c rfl (fun _ => rfl) .n) (fun hg => count_Check _ _ _ _ _)) ?_
    refine qm_q (i := 2) (l := [.k 3]) rfl rfl rfl rfl (by kernel_rfl) rfl (fun He => RV.rq (q_lda ta_45 (.n rfl) rfl rfl (fun _ => rfl) (by exact (.s (.s (.s .z)))))) ?_
    refine qm_q (i := 3) (l := [.o 2]) rfl rfl rfl rfl (by kernel_rfl) rfl (fun He => rq_call cf_31 (.n rfl) rfl (.c rfl (fun _ => rfl) .n) (fun hg => ref_CountFault _ _ _ _ _)) ?_
    refine qm_q (i := 4) (l := [.o 1, .o 3]) rfl rfl rfl rfl (by kernel_rfl) rfl (fun He => PV.rq (pv_neq (.n rfl) rfl rfl rfl (fun _ => ⟨rfl, rfl⟩))) ?_
    refine qm_q (i := 5) (l := [.o 4]) rfl rfl rfl rfl (by kernel_rfl) rfl (fun He => PV.rq (pv_mv (.n rfl) rfl rfl (fun _ => rfl))) ?_
    refine qm_q (i := 6) (l := [.k 1, .o 5]) rfl rfl rfl rfl (by kernel_rfl) rfl (fun He => PV.rq (pv_mv (.s rfl rfl rfl) rfl rfl (by first | exact fun _ => rfl | exact id | exact fun h => (Bool.and_eq_true_iff.1 h).1 | simp_all))) ?_
    refine qm_q (i := 7) (l := [.o 6, .o 5]) rfl rfl rfl rfl (by kernel_rfl) rfl (fun He => rq_call cf_32 (.s rfl rfl rfl) rfl (.c rfl (by first | exact fun _ => rfl | exact id | exact fun h => (Bool.and_eq_true_iff.1 h).1 | simp_all) .n) (fun hg => count_Delta _ _ _)) ?_
    refine qm_q (i := 8) (l := [.k 1, .o 5]) rfl rfl rfl rfl (by kernel_rfl) rfl (fun He => PV.rq (pv_mv (.s rfl rfl rfl) rfl rfl (by first | exact fun _ => rfl | exact id | exact fun h => (Bool.and_eq_true_iff.1 h).1 | simp_all))) ?_
    refine qm_q (i := 9) (l := [.o 8, .o 5]) rfl rfl rfl rfl (by kernel_rfl) rfl (fun He => rq_call cf_33 (.s rfl rfl rfl) rfl (.c rfl (by first | exact fun _ => rfl | exact id | exact fun h => (Bool.and_eq_true_iff.1 h).1 | simp_all) .n) (fun hg => ref_DeltaFault _ _ _)) ?_
    refine qm_q (i := 10) (l := [.o 7, .o 9, .o 5]) rfl rfl rfl rfl (by kernel_rfl) rfl (fun He => PV.rq (pv_neq (.s rfl rfl rfl) rfl rfl rfl (by refine fun h => ⟨?_, ?_⟩ <;> first | rfl | exact h | exact (Bool.and_eq_true_iff.1 h).1 | simp_all))) ?_
    refine qm_q (i := 11) (l := [.o 5, .o 10]) rfl rfl rfl rfl (by kernel_rfl) rfl (fun He => PV.rq (pv_or (.n rfl) rfl rfl rfl (fun _ => ⟨rfl, fun hc => by first | rfl | (rw [hc]; rfl) | simp_all⟩))) ?_
    refine qm_q (i := 12) (l := [.o 11]) rfl rfl rfl rfl (by kernel_rfl) rfl (fun He => PV.rq (pv_mv (.n rfl) rfl rfl (fun _ => rfl))) ?_
    refine qm_q (i := 13) (l := [.k 7, .o 12]) rfl rfl rfl rfl (by kernel_rfl) rfl (fun He => RV.rq (q_lda ta_45 (.s rfl rfl rfl) rfl rfl (by first | exact fun _ => rfl | exact id | exact fun h => (Bool.and_eq_true_iff.1 h).1 | simp_all) (by exact (.s (.s (.s .z)))))) ?_
    refine qm_q (i := 14) (l := [.k 9, .o 12]) rfl rfl rfl rfl (by kernel_rfl) rfl (fun He => RV.rq (q_lda ta_45 (.s rfl rfl rfl) rfl rfl (by first | exact fun _ => rfl | exact id | exact fun h => (Bool.and_eq_true_iff.1 h).1 | simp_all) (by exact (.s (.s (.s .z)))))) ?_
    refine qm_q (i := 15) (l := [.o 13, .o 14, .o 12]) rfl rfl rfl rfl (by kernel_rfl) rfl (fun He => PV.rq (pv_ane (eq_Count) (.s rfl rfl rfl) rfl rfl rfl (by refine fun h => ⟨?_, ?_⟩ <;> first | rfl | exact h | exact (Bool.and_eq_true_iff.1 h).1 | simp_all))) ?_
    refine qm_q (i := 16) (l := [.o 12, .o 15]) rfl rfl rfl rfl (by kernel_rfl) rfl (fun He => PV.rq (pv_or (.n rfl) rfl rfl rfl (fun _ => ⟨rfl, fun hc => by first | rfl | (rw [hc]; rfl) | simp_all⟩))) ?_
    refine qm_q (i := 17) (l := [.o 16]) rfl rfl rfl rfl (by kernel_rfl) rfl (fun He => PV.rq (pv_mv (.n rfl) rfl rfl (fun _ => rfl))) ?_
    refine qm_q (i := 18) (l := [.k 8, .o 17]) rfl rfl rfl rfl (by kernel_rfl) rfl (fun He => PV.rq (pv_mv (.s rfl rfl rfl) rfl rfl (by first | exact fun _ => rfl | exact id | exact fun h => (Bool.and_eq_true_iff.1 h).1 | simp_all))) ?_
    refine qm_q (i := 19) (l := [.k 10, .o 17]) rfl rfl rfl rfl (by kernel_rfl) rfl (fun He => PV.rq (pv_mv (.s rfl rfl rfl) rfl rfl (by first | exact fun _ => rfl | exact id | exact fun h => (Bool.and_eq_true_iff.1 h).1 | simp_all))) ?_
    refine qm_q (i := 20) (l := [.o 18, .o 19, .o 17]) rfl rfl rfl rfl (by kernel_rfl) rfl (fun He => PV.rq (pv_neq (.s rfl rfl rfl) rfl rfl rfl (by refine fun h => ⟨?_, ?_⟩ <;> first | rfl | exact h | exact (Bool.and_eq_true_iff.1 h).1 | simp_all))) ?_
    refine qm_q (i := 21) (l := [.o 17, .o 20]) rfl rfl rfl rfl (by kernel_rfl) rfl (fun He => PV.rq (pv_or (.n rfl) rfl rfl rfl (fun _ => ⟨rfl, fun hc => by first | rfl | (rw [hc]; rfl) | simp_all⟩))) ?_
    refine qm_q (i := 22) (l := [.o 21]) rfl rfl rfl rfl (by kernel_rfl) rfl (fun He => PV.rq (pv_mv (.n rfl) rfl rfl (fun _ => rfl))) ?_
    refine qm_q (i := 23) (l := [.k 11, .o 22]) rfl rfl rfl rfl (by kernel_rfl) rfl (fun He => RV.rq (q_lda ta_45 (.s rfl rfl rfl) rfl rfl (by first | exact fun _ => rfl | exact id | exact fun h => (Bool.and_eq_true_iff.1 h).1 | simp_all) (by exact (.s (.s (.s .z)))))) ?_
    refine qm_q (i := 24) (l := [.k 13, .o 22]) rfl rfl rfl rfl (by kernel_rfl) rfl (fun He => RV.rq (q_lda ta_45 (.s rfl rfl rfl) rfl rfl (by first | exact fun _ => rfl | exact id | exact fun h => (Bool.and_eq_true_iff.1 h).1 | simp_all) (by exact (.s (.s (.s .z)))))) ?_
    refine qm_q (i := 25) (l := [.o 23, .o 24, .o 22]) rfl rfl rfl rfl (by kernel_rfl) rfl (fun He => PV.rq (pv_ane (eq_Count) (.s rfl rfl rfl) rfl rfl rfl (by refine fun h => ⟨?_, ?_⟩ <;> first | rfl | exact h | exact (Bool.and_eq_true_iff.1 h).1 | simp_all))) ?_
    refine qm_q (i := 26) (l := [.o 22, .o 25]) rfl rfl rfl rfl (by kernel_rfl) rfl (fun He => PV.rq (pv_or (.n rfl) rfl rfl rfl (fun _ => ⟨rfl, fun hc => by first | rfl | (rw [hc]; rfl) | simp_all⟩))) ?_
    refine qm_q (i := 27) (l := [.o 26]) rfl rfl rfl rfl (by kernel_rfl) rfl (fun He => PV.rq (pv_mv (.n rfl) rfl rfl (fun _ => rfl))) ?_
    refine qm_q (i := 28) (l := [.k 12, .o 27]) rfl rfl rfl rfl (by kernel_rfl) rfl (fun He => PV.rq (pv_mv (.s rfl rfl rfl) rfl rfl (by first | exact fun _ => rfl | exact id | exact fun h => (Bool.and_eq_true_iff.1 h).1 | simp_all))) ?_
    refine qm_q (i := 29) (l := [.k 14, .o 27]) rfl rfl rfl rfl (by kernel_rfl) rfl (fun He => PV.rq (pv_mv (.s rfl rfl rfl) rfl rfl (by first | exact fun _ => rfl | exact id | exact fun h => (Bool.and_eq_true_iff.1 h).1 | simp_all))) ?_
    refine qm_q (i := 30) (l := [.o 28, .o 29, .o 27]) rfl rfl rfl rfl (by kernel_rfl) rfl (fun He => PV.rq (pv_neq (.s rfl rfl rfl) rfl rfl rfl (by refine fun h => ⟨?_, ?_⟩ <;> first | rfl | exact h | exact (Bool.and_eq_true_iff.1 h).1 | simp_all))) ?_
    refine qm_q (i := 31) (l := [.o 27, .o 30]) rfl rfl rfl rfl (by kernel_rfl) rfl (fun He => PV.rq (pv_or (.n rfl) rfl rfl rfl (fun _ => ⟨rfl, fun hc => by first | rfl | (rw [hc]; rfl) | simp_all⟩))) ?_
    refine qm_n (by kernel_rfl) (by kernel_rfl) (by kernel_rfl) (by kernel_rfl) (.c 3 rfl (.c 6 rfl (.c 74 rfl .n))) ?_
    refine r_cond _ rfl (fun h2 => ?_) (fun h2 => ?_)
    · simp at h2
    · try simp at h2
      refine r_skip ?_
      refine r_seq ?_
      refine r_plan _ [] mo (.c 3 rfl .n) Ent.rfl ?_
      refine qm_q (i := 0) (l := [.k 3]) rfl rfl rfl rfl (by kernel_rfl) rfl (fun He => RV.rq (q_lda ta_45 (.n rfl) rfl rfl (fun _ => rfl) (by exact (.s (.s (.s .z)))))) ?_
      refine qm_q (i := 1) (l := [.o 0]) rfl rfl rfl rfl (by kernel_rfl) rfl (fun He => rq_call cf_31 (.n rfl) rfl (.c rfl (fun _ => rfl) .n) (fun hg => ref_CountFault _ _ _ _ _)) ?_
      refine qm_q (i := 2) (l := [.o 1]) rfl rfl rfl rfl (by kernel_rfl) rfl (fun He => PV.rq (pv_neq (.n rfl) rfl rfl rfl (fun _ => ⟨rfl, rfl⟩))) ?_
      refine qm_q (i := 3) (l := [.o 2]) rfl rfl rfl rfl (by kernel_rfl) rfl (fun He => PV.rq (pv_mv (.n rfl) rfl rfl (fun _ => rfl))) ?_
      refine qm_q (i := 4) (l := [.k 3, .o 3]) rfl rfl rfl rfl (by kernel_rfl) rfl (fun He => RV.rq (q_lda ta_45 (.s rfl rfl rfl) rfl rfl (by first | exact fun _ => rfl | exact id | exact fun h => (Bool.and_eq_true_iff.1 h).1 | simp_all) (by exact (.s (.s (.s .z)))))) ?_
      refine qm_q (i := 5) (l := [.o 4, .o 3]) rfl rfl rfl rfl (by kernel_rfl) rfl (fun He => rq_call cf_34 (.s rfl rfl rfl) rfl (.c rfl (by first | exact fun _ => rfl | exact id | exact fun h => (Bool.and_eq_true_iff.1 h).1 | simp_all) .n) (fun hg => count_Low _ _ _ _ _ (by simp at hg; have hq := chk_ok hg; simp only at hq; omega))) ?_
      refine qm_q (i := 6) (l := [.k 3, .o 3]) rfl rfl rfl rfl (by kernel_rfl) rfl (fun He => PV.rq (pv_fa fa_45_0 (.s rfl rfl rfl) rfl rfl (by first | exact fun _ => rfl | exact id | exact fun h => (Bool.and_eq_true_iff.1 h).1 | simp_all))) ?_
      refine qm_q (i := 7) (l := [.o 6, .o 3]) rfl rfl rfl rfl (by kernel_rfl) rfl (fun He => RV.rq (q_ldc tc_3 (.s rfl rfl rfl) rfl rfl (by first | exact fun _ => rfl | exact id | exact fun h => (Bool.and_eq_true_iff.1 h).1 | simp_all) (by rfl))) ?_
      refine qm_q (i := 8) (l := [.k 3, .o 3]) rfl rfl rfl rfl (by kernel_rfl) rfl (fun He => PV.rq (pv_fa fa_45_1 (.s rfl rfl rfl) rfl rfl (by first | exact fun _ => rfl | exact id | exact fun h => (Bool.and_eq_true_iff.1 h).1 | simp_all))) ?_
      refine qm_q (i := 9) (l := [.o 8, .o 3]) rfl rfl rfl rfl (by kernel_rfl) rfl (fun He => RV.rq (q_ldc tc_3 (.s rfl rfl rfl) rfl rfl (by first | exact fun _ => rfl | exact id | exact fun h => (Bool.and_eq_true_iff.1 h).1 | simp_all) (by rfl))) ?_
      refine qm_q (i := 10) (l := [.o 7, .o 9, .o 3]) rfl rfl rfl rfl (by kernel_rfl) rfl (fun He => PV.rq (pv_sub (by intro hg; simp at hg; first | (have hq := chk_ok hg; simp only at hq; omega) | (have hq := chk_ok hg.1; simp only at hq; omega)) (.s rfl rfl rfl) rfl rfl rfl (by refine fun h => ⟨?_, ?_⟩ <;> first | rfl | exact h | exact (Bool.and_eq_true_iff.1 h).1 | simp_all))) ?_
      refine qm_q (i := 11) (l := [.o 5, .o 10, .o 3]) rfl rfl rfl rfl (by kernel_rfl) rfl (fun He => PV.rq (pv_eql (.s rfl rfl rfl) rfl rfl rfl (by refine fun h => ⟨?_, ?_⟩ <;> first | rfl | exact h | exact (Bool.and_eq_true_iff.1 h).1 | simp_all))) ?_
      refine qm_q (i := 12) (l := [.o 11, .o 3]) rfl rfl rfl rfl (by kernel_rfl) rfl (fun He => PV.rq (pv_mv (.s rfl rfl rfl) rfl rfl (by first | exact fun _ => rfl | exact id | exact fun h => (Bool.and_eq_true_iff.1 h).1 | simp_all))) ?_
      refine qm_q (i := 13) (l := [.k 3, .o 12]) rfl rfl rfl rfl (by kernel_rfl) rfl (fun He => RV.rq (q_lda ta_45 (.s rfl rfl rfl) rfl rfl (by first | exact fun _ => rfl | exact id | exact fun h => (Bool.and_eq_true_iff.1 h).1 | simp_all) (by exact (.s (.s (.s .z)))))) ?_
      refine qm_q (i := 14) (l := [.o 13, .o 12]) rfl rfl rfl rfl (by kernel_rfl) rfl (fun He => rq_call cf_35 (.s rfl rfl rfl) rfl (.c rfl (by first | exact fun _ => rfl | exact id | exact fun h => (Bool.and_eq_true_iff.1 h).1 | simp_all) .n) (fun hg => count_High _ _ _ _ _ (by simp at hg; first | (have hq := chk_ok hg; simp only at hq; omega) | (have hq := chk_ok hg.1; simp only at hq; omega)))) ?_
      refine qm_q (i := 15) (l := [.k 3, .o 12]) rfl rfl rfl rfl (by kernel_rfl) rfl (fun He => PV.rq (pv_fa fa_45_0 (.s rfl rfl rfl) rfl rfl (by first | exact fun _ => rfl | exact id | exact fun h => (Bool.and_eq_true_iff.1 h).1 | simp_all))) ?_
      refine qm_q (i := 16) (l := [.o 15, .o 12]) rfl rfl rfl rfl (by kernel_rfl) rfl (fun He => RV.rq (q_ldc tc_3 (.s rfl rfl rfl) rfl rfl (by first | exact fun _ => rfl | exact id | exact fun h => (Bool.and_eq_true_iff.1 h).1 | simp_all) (by rfl))) ?_
      refine qm_q (i := 17) (l := [.k 3, .o 12]) rfl rfl rfl rfl (by kernel_rfl) rfl (fun He => PV.rq (pv_fa fa_45_2 (.s rfl rfl rfl) rfl rfl (by first | exact fun _ => rfl | exact id | exact fun h => (Bool.and_eq_true_iff.1 h).1 | simp_all))) ?_
      refine qm_q (i := 18) (l := [.o 17, .o 12]) rfl rfl rfl rfl (by kernel_rfl) rfl (fun He => RV.rq (q_ldc tc_3 (.s rfl rfl rfl) rfl rfl (by first | exact fun _ => rfl | exact id | exact fun h => (Bool.and_eq_true_iff.1 h).1 | simp_all) (by rfl))) ?_
      refine qm_q (i := 19) (l := [.o 16, .o 18, .o 12]) rfl rfl rfl rfl (by kernel_rfl) rfl (fun He => PV.rq (pv_add (by intro hg; simp at hg; first | (have hq := chk_ok hg; simp only at hq; omega) | (have hq := chk_ok hg.1; simp only at hq; omega)) (.s rfl rfl rfl) rfl rfl rfl (by refine fun h => ⟨?_, ?_⟩ <;> first | rfl | exact h | exact (Bool.and_eq_true_iff.1 h).1 | simp_all))) ?_
      refine qm_q (i := 20) (l := [.o 14, .o 19, .o 12]) rfl rfl rfl rfl (by kernel_rfl) rfl (fun He => PV.rq (pv_eql (.s rfl rfl rfl) rfl rfl rfl (by refine fun h => ⟨?_, ?_⟩ <;> first | rfl | exact h | exact (Bool.and_eq_true_iff.1 h).1 | simp_all))) ?_
      refine qm_q (i := 21) (l := [.o 12, .o 20, .o 3]) rfl rfl rfl rfl (by kernel_rfl) rfl (fun He => PV.rq (pv_and (.s rfl rfl rfl) rfl rfl rfl (by intro hg; refine ⟨?_, fun hc => ?_⟩ <;> first | rfl | (rw [hc]; rfl) | simp_all))) ?_
      refine qm_q (i := 22) (l := [.o 3, .o 21]) rfl rfl rfl rfl (by kernel_rfl) rfl (fun He => PV.rq (pv_or (.n rfl) rfl rfl rfl (fun _ => ⟨rfl, fun hc => by first | rfl | (rw [hc]; rfl) | simp_all⟩))) ?_
      refine qm_q (i := 23) (l := [.o 22]) rfl rfl rfl rfl (by kernel_rfl) rfl (fun He => PV.rq (pv_as (.n rfl) rfl rfl (fun _ => rfl))) ?_
      refine qm_n (by kernel_rfl) (by kernel_rfl) (by kernel_rfl) (by kernel_rfl) (.c 6 rfl .n) ?_
      refine r_retv hF rfl (.c (.t rfl) .n) ?_ ?_
      · first | exact Ent.rfl | (repeat (first | exact Ent.rfl | refine Ent.c (SelB.ent) ?_ | refine Ent.c (SelS.ent) ?_ | refine Ent.cN ?_ | refine Ent.c (SelX.ent) ?_ | refine Ent.dropR ?_))
      · exact bool_eq (by by_cases hc : chk ⟨v, o, i⟩ = 0 <;> simp [hc])

theorem law_CountBack (M : Amb) (H : List HP) (v o i n : Int) : FnV Try.prog M H 7 [.agg #[.int .i64 v, .int .i64 o, .int .i64 i], .int .i64 n] (.bool true) := by
  refine fn_intro Try.func7 rfl Try.ntmps7 rfl fun F hF => ?_
  refine r_seq ?_
  refine r_region ?_
  refine p_box rfl rfl rfl fun b2 => ?_
  refine p_as rfl rfl ?_
  refine o_keep (.c 1 rfl (.c 2 rfl (.c 4 rfl .n))) ?_
  refine r_seq ?_
  refine r_seq ?_
  refine r_region ?_
  refine p_callv cf_25 (.n) rfl (law_countBegun _ _) ?_
  refine p_not rfl rfl ?_
  refine o_keep (.c 1 rfl (.c 2 rfl (.c 4 rfl (.c 12 rfl .n)))) ?_
  refine r_cond _ rfl (fun h1 => ?_) (fun h1 => ?_)
  · simp at h1
  · try simp at h1
    refine r_skip ?_
    refine r_seq ?_
    refine r_region ?_
    refine p_lda ta_45 rfl (by exact (.s (.s (.s .z)))) rfl ?_
    refine p_mv rfl rfl ?_
    refine p_callv cf_26 (.c rfl (.c rfl .n)) rfl (count_Hold _ _ _ _ _ _) ?_
    refine p_mv rfl rfl ?_
    refine p_ext rfl rfl rfl ?_
    refine p_ext rfl rfl rfl ?_
    refine p_alloc zr_45 rfl fun b5 => ?_
    refine p_store (.ofA ta_45) rfl rfl rfl rfl rfl (by repeat constructor) ?_
    refine p_as rfl rfl ?_
    refine o_keep (.c 1 rfl (.c 2 rfl (.c 4 rfl (.c 5 rfl (.c 6 rfl .n))))) ?_
    refine r_seq ?_
    refine r_seq ?_
    refine r_region ?_
    refine p_mv rfl rfl ?_
    refine p_neq rfl rfl rfl ?_
    refine o_keep (.c 1 rfl (.c 2 rfl (.c 4 rfl (.c 5 rfl (.c 20 rfl .n))))) ?_
    refine r_cond _ rfl (fun h2 => ?_) (fun h2 => ?_)
    · try simp at h2
      have hz := hold_err h2
      refine r_seq ?_
      refine r_region ?_
      refine p_lda ta_45 rfl (by exact (.s (.s (.s .z)))) rfl ?_
      refine p_build zr_45 pl_45 (.n) rfl ?_
      refine l_op (x_p (pv_aeq (eq_Count) (.n rfl) rfl rfl rfl (fun _ => ⟨rfl, rfl⟩)) rfl rfl ?_)
      refine p_as rfl rfl ?_
      refine o_keep (.c 1 rfl (.c 2 rfl (.c 4 rfl (.c 5 rfl .n)))) ?_
      refine r_retv hF rfl (.c (.t rfl) .n) ?_ ?_
      · first | exact Ent.rfl | (repeat (first | exact Ent.rfl | refine Ent.c (SelB.ent) ?_ | refine Ent.c (SelS.ent) ?_ | refine Ent.cN ?_ | refine Ent.c (SelX.ent) ?_ | refine Ent.dropR ?_))
      · exact bool_eq (by simp [hz, Cnt.z])
    · try simp at h2
      obtain ⟨hc, hn, -⟩ := hold_ok h2
      have hc := chk_ok hc
      have hn := dlt_ok hn
      simp only at hc
      refine r_skip ?_
      refine r_seq ?_
      refine r_region ?_
      refine p_lda ta_45 rfl (by exact (.s (.s (.s .z)))) rfl ?_
      refine p_mv rfl rfl ?_
      refine p_callv cf_28 (.c rfl (.c rfl (.c rfl .n))) rfl (count_End _ _ _ _ _ _ _) ?_
      refine p_mv rfl rfl ?_
      refine p_ext rfl rfl rfl ?_
      refine p_ext rfl rfl rfl ?_
      refine p_alloc zr_45 rfl fun b7 => ?_
      refine p_store (.ofA ta_45) rfl rfl rfl rfl rfl (by repeat constructor) ?_
      refine p_as rfl rfl ?_
      refine o_keep (.c 1 rfl (.c 2 rfl (.c 4 rfl (.c 5 rfl (.c 7 rfl (.c 8 rfl .n)))))) ?_
      refine r_seq ?_
      refine r_region ?_
      refine p_lda ta_45 rfl (by exact (.s (.s (.s .z)))) rfl ?_
      refine p_mv rfl rfl ?_
      refine p_callv cf_28 (.c rfl (.c rfl (.c rfl .n))) rfl (count_End _ _ _ _ _ _ _) ?_
      refine p_mv rfl rfl ?_
      refine p_ext rfl rfl rfl ?_
      refine p_ext rfl rfl rfl ?_
      refine p_alloc zr_45 rfl fun b9 => ?_
      refine p_store (.ofA ta_45) rfl rfl rfl rfl rfl (by repeat constructor) ?_
      refine p_as rfl rfl ?_
      refine o_keep (.c 1 rfl (.c 2 rfl (.c 4 rfl (.c 7 rfl (.c 8 rfl (.c 9 rfl (.c 10 rfl .n))))))) ?_
      refine r_seq ?_
      refine r_region ?_
      refine p_fa fa_45_0 rfl rfl ?_
      refine p_ldc tc_3 rfl (by rfl) rfl ?_
      refine p_mv rfl rfl ?_
      refine p_add rfl rfl (by omega) rfl ?_
      refine p_fa fa_45_0 rfl rfl ?_
      refine p_store (.ofC tc_3) rfl rfl rfl rfl rfl (by repeat constructor) ?_
      refine o_keep (.c 1 rfl (.c 2 rfl (.c 4 rfl (.c 7 rfl (.c 8 rfl (.c 9 rfl (.c 10 rfl .n))))))) ?_
      refine r_seq ?_
      refine r_region ?_
      refine p_mv rfl rfl ?_
      refine p_eql rfl rfl rfl ?_
      refine p_mv rfl rfl ?_
      refine l_op (x_p (pv_mv (.s rfl rfl rfl) rfl rfl (by first | exact fun _ => rfl | exact id | exact fun h => (Bool.and_eq_true_iff.1 h).1 | simp_all)) rfl rfl ?_)
      refine l_op (x_p (pv_eql (.s rfl rfl rfl) rfl rfl rfl (by refine fun h => ⟨?_, ?_⟩ <;> first | rfl | exact h | exact (Bool.and_eq_true_iff.1 h).1 | simp_all)) rfl rfl ?_)
      refine l_op (x_p (pv_and (.n rfl) rfl rfl rfl (fun _ => ⟨rfl, fun hc => by first | rfl | (rw [hc]; rfl) | simp_all⟩)) rfl rfl ?_)
      refine p_mv rfl rfl ?_
      refine l_op (x_r (q_lda ta_45 (.s rfl rfl rfl) rfl rfl (by first | exact fun _ => rfl | exact id | exact fun h => (Bool.and_eq_true_iff.1 h).1 | simp_all) (by exact (.s (.s (.s .z))))) rfl rfl ?_)
      refine l_op (x_r (q_lda ta_45 (.s rfl rfl rfl) rfl rfl (by first | exact fun _ => rfl | exact id | exact fun h => (Bool.and_eq_true_iff.1 h).1 | simp_all) (by exact (.s (.s (.s .z))))) rfl rfl ?_)
      refine l_op (x_p (pv_aeq (eq_Count) (.s rfl rfl rfl) rfl rfl rfl (by refine fun h => ⟨?_, ?_⟩ <;> first | rfl | exact h | exact (Bool.and_eq_true_iff.1 h).1 | simp_all)) rfl rfl ?_)
      refine l_op (x_p (pv_and (.n rfl) rfl rfl rfl (fun _ => ⟨rfl, fun hc => by first | rfl | (rw [hc]; rfl) | simp_all⟩)) rfl rfl ?_)
      refine p_mv rfl rfl ?_
      refine l_op (x_p (pv_fa fa_45_0 (.s rfl rfl rfl) rfl rfl (by first | exact fun _ => rfl | exact id | exact fun h => (Bool.and_eq_true_iff.1 h).1 | simp_all)) rfl rfl ?_)
      refine l_op (x_r (q_ldc tc_3 (.s rfl rfl rfl) rfl rfl (by first | exact fun _ => rfl | exact id | exact fun h => (Bool.and_eq_true_iff.1 h).1 | simp_all) (by rfl)) rfl rfl ?_)
      refine l_op (x_p (pv_fa fa_45_0 (.s rfl rfl rfl) rfl rfl (by first | exact fun _ => rfl | exact id | exact fun h => (Bool.and_eq_true_iff.1 h).1 | simp_all)) rfl rfl ?_)
      refine l_op (x_r (q_ldc tc_3 (.s rfl rfl rfl) rfl rfl (by first | exact fun _ => rfl | exact id | exact fun h => (Bool.and_eq_true_iff.1 h).1 | simp_all) (by rfl)) rfl rfl ?_)
      refine l_op (x_p (pv_mv (.s rfl rfl rfl) rfl rfl (by first | exact fun _ => rfl | exact id | exact fun h => (Bool.and_eq_true_iff.1 h).1 | simp_all)) rfl rfl ?_)
      refine l_op (x_p (pv_sub (by intro hg; simp at hg; omega) (.s rfl rfl rfl) rfl rfl rfl (by refine fun h => ⟨?_, ?_⟩ <;> first | rfl | exact h | exact (Bool.and_eq_true_iff.1 h).1 | simp_all)) rfl rfl ?_)
      refine l_op (x_p (pv_eql (.s rfl rfl rfl) rfl rfl rfl (by refine fun h => ⟨?_, ?_⟩ <;> first | rfl | exact h | exact (Bool.and_eq_true_iff.1 h).1 | simp_all)) rfl rfl ?_)
      refine l_op (x_p (pv_and (.n rfl) rfl rfl rfl (fun _ => ⟨rfl, fun hc => by first | rfl | (rw [hc]; rfl) | simp_all⟩)) rfl rfl ?_)
      refine p_mv rfl rfl ?_
      refine l_op (x_p (pv_fa fa_45_1 (.s rfl rfl rfl) rfl rfl (by first | exact fun _ => rfl | exact id | exact fun h => (Bool.and_eq_true_iff.1 h).1 | simp_all)) rfl rfl ?_)
      refine l_op (x_r (q_ldc tc_3 (.s rfl rfl rfl) rfl rfl (by first | exact fun _ => rfl | exact id | exact fun h => (Bool.and_eq_true_iff.1 h).1 | simp_all) (by rfl)) rfl rfl ?_)
      refine l_op (x_p (pv_fa fa_45_1 (.s rfl rfl rfl) rfl rfl (by first | exact fun _ => rfl | exact id | exact fun h => (Bool.and_eq_true_iff.1 h).1 | simp_all)) rfl rfl ?_)
      refine l_op (x_r (q_ldc tc_3 (.s rfl rfl rfl) rfl rfl (by first | exact fun _ => rfl | exact id | exact fun h => (Bool.and_eq_true_iff.1 h).1 | simp_all) (by rfl)) rfl rfl ?_)
      refine l_op (x_p (pv_eql (.s rfl rfl rfl) rfl rfl rfl (by refine fun h => ⟨?_, ?_⟩ <;> first | rfl | exact h | exact (Bool.and_eq_true_iff.1 h).1 | simp_all)) rfl rfl ?_)
      refine l_op (x_p (pv_and (.n rfl) rfl rfl rfl (fun _ => ⟨rfl, fun hc => by first | rfl | (rw [hc]; rfl) | simp_all⟩)) rfl rfl ?_)
      refine p_mv rfl rfl ?_
      refine l_op (x_p (pv_fa fa_45_2 (.s rfl rfl rfl) rfl rfl (by first | exact fun _ => rfl | exact id | exact fun h => (Bool.and_eq_true_iff.1 h).1 | simp_all)) rfl rfl ?_)
      refine l_op (x_r (q_ldc tc_3 (.s rfl rfl rfl) rfl rfl (by first | exact fun _ => rfl | exact id | exact fun h => (Bool.and_eq_true_iff.1 h).1 | simp_all) (by rfl)) rfl rfl ?_)
      refine l_op (x_p (pv_fa fa_45_2 (.s rfl rfl rfl) rfl rfl (by first | exact fun _ => rfl | exact id | exact fun h => (Bool.and_eq_true_iff.1 h).1 | simp_all)) rfl rfl ?_)
      refine l_op (x_r (q_ldc tc_3 (.s rfl rfl rfl) rfl rfl (by first | exact fun _ => rfl | exact id | exact fun h => (Bool.and_eq_true_iff.1 h).1 | simp_all) (by rfl)) rfl rfl ?_)
      refine l_op (x_p (pv_eql (.s rfl rfl rfl) rfl rfl rfl (by refine fun h => ⟨?_, ?_⟩ <;> first | rfl | exact h | exact (Bool.and_eq_true_iff.1 h).1 | simp_all)) rfl rfl ?_)
      refine l_op (x_p (pv_and (.n rfl) rfl rfl rfl (fun _ => ⟨rfl, fun hc => by first | rfl | (rw [hc]; rfl) | simp_all⟩)) rfl rfl ?_)
      refine p_as rfl rfl ?_
      refine o_keep (.c 4 rfl .n) ?_
      refine r_retv hF rfl (.c (.t rfl) .n) ?_ ?_
      · first | exact Ent.rfl | (repeat (first | exact Ent.rfl | refine Ent.c (SelB.ent) ?_ | refine Ent.c (SelS.ent) ?_ | refine Ent.cN ?_ | refine Ent.c (SelX.ent) ?_ | refine Ent.dropR ?_))
      · exact bool_eq (by simp [endc_hold h2])

theorem law_CountOrder (M : Amb) (H : List HP) (v o i n m : Int) : FnV Try.prog M H 9 [.agg #[.int .i64 v, .int .i64 o, .int .i64 i], .int .i64 n, .int .i64 m] (.bool true) := by
  refine fn_intro Try.func9 rfl Try.ntmps9 rfl fun F hF => ?_
  refine r_seq ?_
  refine r_region ?_
  refine p_box rfl rfl rfl fun b3 => ?_
  refine p_as rfl rfl ?_
  refine o_keep (.c 1 rfl (.c 2 rfl (.c 3 rfl (.c 6 rfl .n)))) ?_
  refine r_seq ?_
  refine r_seq ?_
  refine r_region ?_
  refine p_callv cf_25 (.n) rfl (law_countBegun _ _) ?_
  refine p_not rfl rfl ?_
  refine o_keep (.c 1 rfl (.c 2 rfl (.c 3 rfl (.c 6 rfl (.c 16 rfl .n))))) ?_
  refine r_cond _ rfl (fun h1 => ?_) (fun h1 => ?_)
  · simp at h1
  · try simp at h1
    refine r_skip ?_
    refine r_seq ?_
    refine r_region ?_
    refine p_lda ta_45 rfl (by exact (.s (.s (.s .z)))) rfl ?_
    refine p_mv rfl rfl ?_
    refine p_callv cf_26 (.c rfl (.c rfl .n)) rfl (count_Hold _ _ _ _ _ _) ?_
    refine p_mv rfl rfl ?_
    refine p_ext rfl rfl rfl ?_
    refine p_ext rfl rfl rfl ?_
    refine p_alloc zr_45 rfl fun b7 => ?_
    refine p_store (.ofA ta_45) rfl rfl rfl rfl rfl (by repeat constructor) ?_
    refine p_as rfl rfl ?_
    refine o_keep (.c 1 rfl (.c 2 rfl (.c 3 rfl (.c 6 rfl (.c 7 rfl (.c 8 rfl .n)))))) ?_
    refine r_seq ?_
    refine r_region ?_
    refine p_lda ta_45 rfl (by exact (.s (.s (.s .z)))) rfl ?_
    refine p_mv rfl rfl ?_
    refine p_callv cf_26 (.c rfl (.c rfl .n)) rfl (count_Hold _ _ _ _ _ _) ?_
    refine p_mv rfl rfl ?_
    refine p_ext rfl rfl rfl ?_
    refine p_ext rfl rfl rfl ?_
    refine p_alloc zr_45 rfl fun b9 => ?_
    refine p_store (.ofA ta_45) rfl rfl rfl rfl rfl (by repeat constructor) ?_
    refine p_as rfl rfl ?_
    refine o_keep (.c 1 rfl (.c 2 rfl (.c 3 rfl (.c 6 rfl (.c 8 rfl (.c 9 rfl (.c 10 rfl .n))))))) ?_
    refine r_seq ?_
    refine r_region ?_
    refine p_lda ta_45 rfl (by exact (.s (.s (.s .z)))) rfl ?_
    refine p_mv rfl rfl ?_
    refine p_callv cf_26 (.c rfl (.c rfl .n)) rfl (count_Hold _ _ _ _ _ _) ?_
    refine p_mv rfl rfl ?_
    refine p_ext rfl rfl rfl ?_
    refine p_ext rfl rfl rfl ?_
    refine p_alloc zr_45 rfl fun b11 => ?_
    refine p_store (.ofA ta_45) rfl rfl rfl rfl rfl (by repeat constructor) ?_
    refine p_as rfl rfl ?_
    refine o_keep (.c 1 rfl (.c 6 rfl (.c 8 rfl (.c 9 rfl (.c 10 rfl (.c 11 rfl (.c 12 rfl .n))))))) ?_
    refine r_seq ?_
    refine r_region ?_
    refine p_lda ta_45 rfl (by exact (.s (.s (.s .z)))) rfl ?_
    refine p_mv rfl rfl ?_
    refine p_callv cf_26 (.c rfl (.c rfl .n)) rfl (count_Hold _ _ _ _ _ _) ?_
    refine p_mv rfl rfl ?_
    refine p_ext rfl rfl rfl ?_
    refine p_ext rfl rfl rfl ?_
    refine p_alloc zr_45 rfl fun b13 => ?_
    refine p_store (.ofA ta_45) rfl rfl rfl rfl rfl (by repeat constructor) ?_
    refine p_as rfl rfl ?_
    refine o_keep (.c 6 rfl (.c 8 rfl (.c 9 rfl (.c 10 rfl (.c 12 rfl (.c 13 rfl (.c 14 rfl .n))))))) ?_
    refine r_seq ?_
    refine r_seq ?_
    refine r_region ?_
    refine p_mv rfl rfl ?_
    refine p_eql rfl rfl rfl ?_
    refine p_mv rfl rfl ?_
    refine l_op (x_p (pv_mv (.s rfl rfl rfl) rfl rfl (by first | exact fun _ => rfl | exact id | exact fun h => (Bool.and_eq_true_iff.1 h).1 | simp_all)) rfl rfl ?_)
    refine l_op (x_p (pv_eql (.s rfl rfl rfl) rfl rfl rfl (by refine fun h => ⟨?_, ?_⟩ <;> first | rfl | exact h | exact (Bool.and_eq_true_iff.1 h).1 | simp_all)) rfl rfl ?_)
    refine l_op (x_p (pv_and (.n rfl) rfl rfl rfl (fun _ => ⟨rfl, fun hc => by first | rfl | (rw [hc]; rfl) | simp_all⟩)) rfl rfl ?_)
    refine p_mv rfl rfl ?_
    refine p_eql rfl rfl rfl ?_
    refine p_mv rfl rfl ?_
    refine l_op (x_p (pv_mv (.s rfl rfl rfl) rfl rfl (by first | exact fun _ => rfl | exact id | exact fun h => (Bool.and_eq_true_iff.1 h).1 | simp_all)) rfl rfl ?_)
    refine l_op (x_p (pv_eql (.s rfl rfl rfl) rfl rfl rfl (by refine fun h => ⟨?_, ?_⟩ <;> first | rfl | exact h | exact (Bool.and_eq_true_iff.1 h).1 | simp_all)) rfl rfl ?_)
    refine l_op (x_p (pv_and (.n rfl) rfl rfl rfl (fun _ => ⟨rfl, fun hc => by first | rfl | (rw [hc]; rfl) | simp_all⟩)) rfl rfl ?_)
    refine l_op (x_p (pv_bne Try.underlying4 (.n rfl) rfl rfl rfl (fun _ => ⟨rfl, rfl⟩)) rfl rfl ?_)
    refine o_keep (.c 6 rfl (.c 8 rfl (.c 9 rfl (.c 10 rfl (.c 13 rfl (.c 53 rfl .n)))))) ?_
    refine r_cond _ rfl (fun h2 => ?_) (fun h2 => ?_)
    · rw [Bool.not_eq_true', beq_eq_false_iff_ne] at h2; exact absurd (order_iff ⟨v, o, i⟩ n m) h2
    · try simp at h2
      refine r_skip ?_
      refine r_seq ?_
      refine r_region ?_
      refine p_mv rfl rfl ?_
      refine p_neq rfl rfl rfl ?_
      refine p_mv rfl rfl ?_
      refine l_op (x_p (pv_mv (.s rfl rfl rfl) rfl rfl (by first | exact fun _ => rfl | exact id | exact fun h => (Bool.and_eq_true_iff.1 h).1 | simp_all)) rfl rfl ?_)
      refine l_op (x_p (pv_neq (.s rfl rfl rfl) rfl rfl rfl (by refine fun h => ⟨?_, ?_⟩ <;> first | rfl | exact h | exact (Bool.and_eq_true_iff.1 h).1 | simp_all)) rfl rfl ?_)
      refine l_op (x_p (pv_or (.n rfl) rfl rfl rfl (fun _ => ⟨rfl, fun hc => by first | rfl | (rw [hc]; rfl) | simp_all⟩)) rfl rfl ?_)
      refine p_mv rfl rfl ?_
      refine l_op (x_r (q_lda ta_45 (.s rfl rfl rfl) rfl rfl (by first | exact fun _ => rfl | exact id | exact fun h => (Bool.and_eq_true_iff.1 h).1 | simp_all) (by exact (.s (.s (.s .z))))) rfl rfl ?_)
      refine l_op (x_r (q_lda ta_45 (.s rfl rfl rfl) rfl rfl (by first | exact fun _ => rfl | exact id | exact fun h => (Bool.and_eq_true_iff.1 h).1 | simp_all) (by exact (.s (.s (.s .z))))) rfl rfl ?_)
      refine l_op (x_p (pv_aeq (eq_Count) (.s rfl rfl rfl) rfl rfl rfl (by refine fun h => ⟨?_, ?_⟩ <;> first | rfl | exact h | exact (Bool.and_eq_true_iff.1 h).1 | simp_all)) rfl rfl ?_)
      refine l_op (x_p (pv_or (.n rfl) rfl rfl rfl (fun _ => ⟨rfl, fun hc => by first | rfl | (rw [hc]; rfl) | simp_all⟩)) rfl rfl ?_)
      refine p_as rfl rfl ?_
      refine o_keep (.c 6 rfl .n) ?_
      refine r_retv hF rfl (.c (.t rfl) .n) ?_ ?_
      · first | exact Ent.rfl | (repeat (first | exact Ent.rfl | refine Ent.c (SelB.ent) ?_ | refine Ent.c (SelS.ent) ?_ | refine Ent.cN ?_ | refine Ent.c (SelX.ent) ?_ | refine Ent.dropR ?_))
      · exact bool_eq (order_eq ⟨v, o, i⟩ n m)

end Go.Proofs.Ytmakdilmibjpbaa
