/- The walks of PostLaws: written by a program of ours (gen.py) over the engine. -/
import Derived.Test.YtmakdilmibjpbaaPlain
import Derived.Test.YtmakdilmibjpbaaFacts
import Derived.Test.YtmakdilmibjpbaaPost
import Derived.Test.YtmakdilmibjpbaaPostW
import Derived.Test.YtmakdilmibjpbaaCountLaws
namespace Go.Proofs.Ytmakdilmibjpbaa
open Go Go.RowKit
set_option linter.unusedVariables false
set_option linter.unusedSimpArgs false

theorem law_postBegun (M : Amb) (H : List HP)  : FnV Try.prog M H 14 [] (.bool true) := by
  refine fn_intro Try.func14 rfl Try.ntmps14 rfl fun F hF => ?_
  refine r_seq ?_
  refine r_region ?_
  refine p_as rfl rfl ?_
  refine o_keep (.c 0 rfl .n) ?_
  refine r_seq ?_
  refine r_region ?_
  refine p_calle cf_15 (.n) rfl (post_New _) fun b1 => ?_
  refine o_cat ?_
  refine p_as rfl rfl ?_
  refine o_keep (.c 0 rfl (.c 1 rfl .n)) ?_
  refine r_seq ?_
  refine r_seq ?_
  refine r_region ?_
  refine p_mv rfl rfl ?_
  refine l_op (x_p (pv_peqn Try.underlying24 (.n rfl) rfl rfl rfl (fun _ => ⟨rfl, rfl⟩)) rfl rfl ?_)
  refine o_keep (.c 0 rfl (.c 1 rfl (.c 9 rfl .n))) ?_
  refine r_cond _ rfl (fun h1 => ?_) (fun h1 => ?_)
  · simp at h1
  · skip
    refine r_skip ?_
    refine r_seq ?_
    refine r_region ?_
    refine p_mv rfl rfl ?_
    refine p_build zr_31 pl_31 (.c rfl (fun _ => rfl) rfl rfl rfl (by repeat constructor) .n) rfl ?_
    refine p_callc cf_16 (.c rfl (.c rfl .n)) rfl (post_Send _ _ [] (by decide +kernel) ⟨0, 1, 0, 0, 0, false⟩) ?_
    refine p_as rfl rfl ?_
    refine o_keep (.c 0 rfl (.c 1 rfl (.c 2 rfl .n))) ?_
    refine r_seq ?_
    refine r_region ?_
    refine p_mv rfl rfl ?_
    refine p_build zr_31 pl_31 (.c rfl (fun _ => rfl) rfl rfl rfl (by repeat constructor) .n) rfl ?_
    refine p_callc cf_16 (.c rfl (.c rfl .n)) rfl (post_Send _ _ (sendL [] ⟨0, 1, 0, 0, 0, false⟩) (by decide +kernel) ⟨0, 2, 0, 0, 0, false⟩) ?_
    refine p_as rfl rfl ?_
    refine o_keep (.c 0 rfl (.c 1 rfl (.c 2 rfl (.c 3 rfl .n)))) ?_
    refine r_seq ?_
    refine r_region ?_
    refine p_mv rfl rfl ?_
    refine p_callc cf_20 (.c rfl (.c rfl .n)) rfl (post_Double _ _ (sendL (sendL [] ⟨0, 1, 0, 0, 0, false⟩) ⟨0, 2, 0, 0, 0, false⟩) (by decide +kernel) 3) ?_
    refine p_as rfl rfl ?_
    refine o_keep (.c 0 rfl (.c 1 rfl (.c 2 rfl (.c 3 rfl (.c 4 rfl .n))))) ?_
    refine r_seq ?_
    refine r_region ?_
    refine p_mv rfl rfl ?_
    refine p_callc cf_18 (.c rfl (.c rfl .n)) rfl (post_Take _ _ (dblL (sendL (sendL [] ⟨0, 1, 0, 0, 0, false⟩) ⟨0, 2, 0, 0, 0, false⟩) 3) (by decide +kernel) 0) ?_
    refine p_mv rfl rfl ?_
    refine p_ext rfl rfl rfl ?_
    refine p_ext rfl rfl rfl ?_
    refine p_alloc zr_31 rfl fun b5 => ?_
    refine p_store (.ofA ta_31) rfl rfl rfl rfl rfl (by repeat constructor) ?_
    refine p_as rfl rfl ?_
    refine o_keep (.c 0 rfl (.c 1 rfl (.c 2 rfl (.c 3 rfl (.c 4 rfl (.c 5 rfl (.c 6 rfl .n))))))) ?_
    refine r_seq ?_
    refine r_region ?_
    refine p_mv rfl rfl ?_
    refine p_mv rfl rfl ?_
    refine l_op (x_p (pv_mv (.s rfl rfl rfl) rfl rfl (by first | exact fun _ => rfl | exact id | exact fun h => (Bool.and_eq_true_iff.1 h).1 | simp_all)) rfl rfl ?_)
    refine l_op (x_p (pv_and (.n rfl) rfl rfl rfl (fun _ => ⟨rfl, fun hc => by first | rfl | (rw [hc]; rfl) | simp_all⟩)) rfl rfl ?_)
    refine p_mv rfl rfl ?_
    refine l_op (x_p (pv_mv (.s rfl rfl rfl) rfl rfl (by first | exact fun _ => rfl | exact id | exact fun h => (Bool.and_eq_true_iff.1 h).1 | simp_all)) rfl rfl ?_)
    refine l_op (x_p (pv_and (.n rfl) rfl rfl rfl (fun _ => ⟨rfl, fun hc => by first | rfl | (rw [hc]; rfl) | simp_all⟩)) rfl rfl ?_)
    refine p_mv rfl rfl ?_
    refine l_op (x_p (pv_mv (.s rfl rfl rfl) rfl rfl (by first | exact fun _ => rfl | exact id | exact fun h => (Bool.and_eq_true_iff.1 h).1 | simp_all)) rfl rfl ?_)
    refine l_op (x_p (pv_and (.n rfl) rfl rfl rfl (fun _ => ⟨rfl, fun hc => by first | rfl | (rw [hc]; rfl) | simp_all⟩)) rfl rfl ?_)
    refine p_mv rfl rfl ?_
    refine l_op (x_p (pv_fa fa_31_1 (.s rfl rfl rfl) rfl rfl (by first | exact fun _ => rfl | exact id | exact fun h => (Bool.and_eq_true_iff.1 h).1 | simp_all)) rfl rfl ?_)
    refine l_op (x_r (q_ldc tc_3 (.s rfl rfl rfl) rfl rfl (by first | exact fun _ => rfl | exact id | exact fun h => (Bool.and_eq_true_iff.1 h).1 | simp_all) (by rfl)) rfl rfl ?_)
    refine l_op (x_p (pv_eql (.s rfl rfl rfl) rfl rfl rfl (by refine fun h => ⟨?_, ?_⟩ <;> first | rfl | exact h | exact (Bool.and_eq_true_iff.1 h).1 | simp_all)) rfl rfl ?_)
    refine l_op (x_p (pv_and (.n rfl) rfl rfl rfl (fun _ => ⟨rfl, fun hc => by first | rfl | (rw [hc]; rfl) | simp_all⟩)) rfl rfl ?_)
    refine p_mv rfl rfl ?_
    refine l_op (x_p (pv_mv (.s rfl rfl rfl) rfl rfl (by first | exact fun _ => rfl | exact id | exact fun h => (Bool.and_eq_true_iff.1 h).1 | simp_all)) rfl rfl ?_)
    refine l_op (x_q (rq_call cf_22 (.s rfl rfl rfl) rfl (.c rfl (by first | exact fun _ => rfl | exact id | exact fun h => (Bool.and_eq_true_iff.1 h).1 | simp_all) .n) (fun hg => (post_Len _ _ (takeL (dblL (sendL (sendL [] ⟨0, 1, 0, 0, 0, false⟩) ⟨0, 2, 0, 0, 0, false⟩) 3) 0)).q)) rfl rfl ?_)
    refine l_op (x_p (pv_eql (.s rfl rfl rfl) rfl rfl rfl (by refine fun h => ⟨?_, ?_⟩ <;> first | rfl | exact h | exact (Bool.and_eq_true_iff.1 h).1 | simp_all)) rfl rfl ?_)
    refine l_op (x_p (pv_and (.n rfl) rfl rfl rfl (fun _ => ⟨rfl, fun hc => by first | rfl | (rw [hc]; rfl) | simp_all⟩)) rfl rfl ?_)
    refine p_mv rfl rfl ?_
    refine o_split (t := 43) rfl (fun g2 => ?_) (fun g2 => ?_)
    · skip
      refine o_g (.s rfl rfl rfl) rfl ?_
      refine p_mv rfl rfl ?_
      refine o_g (.s rfl rfl rfl) rfl ?_
      refine p_calle cf_24 (.c rfl .n) rfl (post_List _ _ (takeL (dblL (sendL (sendL [] ⟨0, 1, 0, 0, 0, false⟩) ⟨0, 2, 0, 0, 0, false⟩) 3) 0) (by decide +kernel)) fun lv => ?_
      refine o_cat ?_
      refine o_rd lv fun hrl => ?_
      refine o_g (.s rfl rfl rfl) rfl ?_
      refine l_op (x_p (pv_lens (Rd.len hrl) ⟨_, Try.underlying26⟩ (.n rfl) rfl rfl rfl rfl (fun _ => rfl)) rfl rfl ?_)
      refine o_g (.s rfl rfl rfl) rfl ?_
      refine p_eql rfl rfl rfl ?_
      refine l_op (x_p (pv_and (.n rfl) rfl rfl rfl (fun _ => ⟨rfl, fun hc => by first | rfl | (rw [hc]; rfl) | simp_all⟩)) rfl rfl ?_)
      refine p_as rfl rfl ?_
      refine o_keep (.c 0 rfl .n) ?_
      refine r_retv hF rfl (.c (.t rfl) .n) ?_ ?_
      · first | exact Ent.rfl | (repeat (first | exact Ent.rfl | refine Ent.c (SelB.ent) ?_ | refine Ent.c (SelS.ent) ?_ | refine Ent.cN ?_ | refine Ent.c (SelX.ent) ?_ | refine Ent.dropR ?_))
      · exact bool_eq (by decide +kernel)
    · exact absurd g2 (by decide +kernel)

theorem law_PostDoes (M : Amb) (H : List HP) (lv : Value) (ls : List PStep) (hl : Rd M [] lv 8 (ls.map rPS)) : FnV Try.prog M H 3 [lv] (.bool true) := by
  refine fn_intro Try.func3 rfl Try.ntmps3 rfl fun F hF => ?_
  refine r_seq ?_
  refine r_region ?_
  refine p_as rfl rfl ?_
  refine o_keep (.c 0 rfl (.c 2 rfl .n)) ?_
  refine r_seq ?_
  refine r_seq ?_
  refine r_region ?_
  refine p_callv cf_14 (.n) rfl (law_postBegun _ _) ?_
  refine p_not rfl rfl ?_
  refine o_keep (.c 0 rfl (.c 2 rfl (.c 12 rfl .n))) ?_
  refine r_cond _ rfl (fun h1 => ?_) (fun h1 => ?_)
  · simp at h1
  · skip
    refine r_skip ?_
    refine r_seq ?_
    refine r_seq ?_
    refine r_region ?_
    refine p_mv rfl rfl ?_
    refine l_op (x_p (pv_lens hl.len ⟨_, Try.underlying22⟩ (.n rfl) rfl rfl rfl rfl (fun _ => rfl)) rfl rfl ?_)
    refine p_gtr rfl rfl rfl ?_
    refine o_keep (.c 0 rfl (.c 2 rfl (.c 15 rfl .n))) ?_
    refine r_cond _ rfl (fun h2 => ?_) (fun h2 => ?_)
    · skip
      refine r_seq ?_
      refine r_region ?_
      refine p_as rfl rfl ?_
      refine o_keep (.c 0 rfl (.c 2 rfl .n)) ?_
      refine r_retv hF rfl (.c (.t rfl) .n) ?_ ?_
      · first | exact Ent.rfl | (repeat (first | exact Ent.rfl | refine Ent.c (SelB.ent) ?_ | refine Ent.c (SelS.ent) ?_ | refine Ent.cN ?_ | refine Ent.c (SelX.ent) ?_ | refine Ent.dropR ?_))
      · rfl
    · skip
      have hL := of_decide_eq_false h2
      refine r_skip ?_
      refine r_seq ?_
      refine r_region ?_
      refine p_calle cf_15 (.n) rfl (post_New _) fun b3 => ?_
      refine o_cat ?_
      refine p_as rfl rfl ?_
      refine o_keep (.c 0 rfl (.c 2 rfl (.c 3 rfl .n))) ?_
      refine r_seq ?_
      refine r_region ?_
      refine p_alloc zr_27 rfl fun b4 => ?_
      refine o_keep (.c 0 rfl (.c 2 rfl (.c 3 rfl (.c 4 rfl .n)))) ?_
      refine r_seq ?_
      refine r_seq ?_
      refine r_region ?_
      refine p_as rfl rfl ?_
      refine o_keep (.c 0 rfl (.c 2 rfl (.c 3 rfl (.c 4 rfl (.c 5 rfl .n))))) ?_
      refine r_block ?_
      refine r_loop_2 (fun (i : Nat) (l : List Mail) => [(5, true, .int .i64 (i : Int))]) (.c 0 rfl (.c 2 rfl (.c 3 rfl (.c 4 rfl .n)))) (fun (i : Nat) (l : List Mail) => postP b3 l :: bagP b4 l :: H) (fun (i : Nat) (l : List Mail) => i ≤ ls.length ∧ l.length ≤ 40) (fun (i : Nat) (l : List Mail) => ls.length - i) (0) ([]) ?_ (.c 5 rfl .n) ?_ (fun i l hI => ?_)
      · exact ⟨Nat.zero_le _, by simp⟩
      · refine Ent.c (SelX.ent) ?_; refine Ent.c bagP_nil ?_; exact Ent.rfl
      · skip
        obtain ⟨hil, hl2⟩ := hI
        refine r_seq ?_
        refine r_seq ?_
        refine r_region ?_
        refine p_mv rfl rfl ?_
        refine p_mv rfl rfl ?_
        refine l_op (x_p (pv_lens hl.len ⟨_, Try.underlying22⟩ (.n rfl) rfl rfl rfl rfl (fun _ => rfl)) rfl rfl ?_)
        refine p_lss rfl rfl rfl ?_
        refine o_keep (.c 0 rfl (.c 2 rfl (.c 3 rfl (.c 4 rfl (.c 5 rfl (.c 20 rfl .n)))))) ?_
        refine r_cond _ rfl (fun h3 => ?_) (fun h3 => ?_)
        · skip
          have hi : i < ls.length := by have := of_decide_eq_true h3; omega
          obtain ⟨s, hs⟩ := getlt hi
          refine r_skip ?_
          refine r_seq ?_
          refine r_block ?_
          refine r_seq ?_
          refine r_region ?_
          refine p_mv rfl rfl ?_
          refine p_mv rfl rfl ?_
          refine p_idx Try.underlying22 (.ofA ta_33) hl rfl (mapget hs) rfl rfl rfl ?_
          refine p_ldats 0 ta_33 (Rd.ent hl (by repeat (first | exact Ent.rfl | exact Ent.one Ent.h | exact Ent.one (SelS.ent) | exact Ent.nil | refine Ent.dropR ?_ | refine Ent.tr Ent.skip ?_))) (mapget hs) rfl rfl (.s (.s (.s (.s (.s (.s (.s (.s .z)))))))) rfl ?_
          refine p_alloc zr_33 rfl fun b6 => ?_
          refine p_store (.ofA ta_33) rfl rfl rfl rfl rfl (by repeat constructor) ?_
          refine o_keep (.c 0 rfl (.c 2 rfl (.c 3 rfl (.c 4 rfl (.c 5 rfl (.c 6 rfl .n)))))) ?_
          refine r_seq ?_
          refine r_seq ?_
          refine r_region ?_
          refine p_fa fa_33_0 rfl rfl ?_
          refine p_ldc tc_3 rfl (by rfl) rfl ?_
          refine o_keep (.c 0 rfl (.c 2 rfl (.c 3 rfl (.c 4 rfl (.c 5 rfl (.c 6 rfl (.c 28 rfl .n))))))) ?_
          refine r_cut_1 (fun (l1 : List Mail) => []) (.c 0 rfl (.c 2 rfl (.c 3 rfl (.c 4 rfl (.c 5 rfl .n))))) (fun (l1 : List Mail) => postP b3 l1 :: bagP b4 l1 :: H) (fun (l1 : List Mail) => l1.length ≤ 40) ?_ (fun l1 hI => ?_)
          · skip
            refine r_block ?_
            refine r_seq ?_
            refine r_region ?_
            refine p_eql rfl rfl rfl ?_
            refine p_as rfl rfl ?_
            refine o_keep (.c 0 rfl (.c 2 rfl (.c 3 rfl (.c 4 rfl (.c 5 rfl (.c 6 rfl (.c 28 rfl (.c 29 rfl .n)))))))) ?_
            refine r_cond _ rfl (fun h4 => ?_) (fun h4 => ?_)
            · skip
              refine r_seq ?_
              refine r_plan (_) ([postP b3 l, bagP b4 l]) mo (.c 0 rfl (.c 2 rfl (.c 3 rfl (.c 4 rfl (.c 5 rfl (.c 6 rfl .n)))))) ((Ent.c SelX.ent (Ent.c SelX.ent Ent.rfl))) ?_
              refine qm_q (i := 0) (l := [.k 3]) rfl rfl rfl rfl (by kernel_rfl) rfl (fun He => PV.rq (pv_mv (.n rfl) rfl rfl (fun _ => rfl))) ?_
              refine qm_q (i := 1) (l := [.k 6]) rfl rfl rfl rfl (by kernel_rfl) rfl (fun He => PV.rq (pv_fa fa_33_2 (.n rfl) rfl rfl (fun _ => rfl))) ?_
              refine qm_q (i := 2) (l := [.o 1]) rfl rfl rfl rfl (by kernel_rfl) rfl (fun He => RV.rq (q_lda ta_31 (.n rfl) rfl rfl (fun _ => rfl) (by exact (.s (.s (.s (.s (.s (.s .z))))))))) ?_
              refine qm_q (i := 4) (l := [.k 6]) rfl rfl rfl rfl (by kernel_rfl) rfl (fun He => PV.rq (pv_fa fa_33_2 (.n rfl) rfl rfl (fun _ => rfl))) ?_
              refine qm_q (i := 5) (l := [.o 4]) rfl rfl rfl rfl (by kernel_rfl) rfl (fun He => RV.rq (q_lda ta_31 (.n rfl) rfl rfl (fun _ => rfl) (by exact (.s (.s (.s (.s (.s (.s .z))))))))) ?_
              refine qm_callc (i := 3) [.o 0, .o 2] (by kernel_rfl) (by kernel_rfl) rfl rfl rfl rfl (by kernel_rfl) (by kernel_rfl) ⟨_, .n rfl, rfl⟩ cf_16 rfl (.c rfl (.c rfl .n)) (post_Send _ _ l (by omega) s.m) ?_
              refine qb_callc (i := 6) [.k 4, .o 5] (by kernel_rfl) (by kernel_rfl) rfl rfl rfl rfl (by kernel_rfl) (by kernel_rfl) (by kernel_rfl) ⟨_, .n rfl, rfl⟩ cf_17 rfl (.c rfl (.c rfl .n)) (bag_Send _ _ l (by omega) s.m) ?_
              refine qm_q (i := 7) (l := [.o 3, .o 6]) rfl rfl rfl rfl (by kernel_rfl) rfl (fun He => PV.rq (pv_bne Try.underlying4 (.n rfl) rfl rfl rfl (fun _ => ⟨rfl, rfl⟩))) ?_
              refine qm_n (by kernel_rfl) (by kernel_rfl) (by kernel_rfl) (by kernel_rfl) (.c 0 rfl (.c 2 rfl (.c 3 rfl (.c 4 rfl (.c 5 rfl (.c 38 rfl .n)))))) ?_
              refine r_cond _ rfl (fun h5 => ?_) (fun h5 => ?_)
              · simp at h5
              · skip
                refine r_skip ?_
                refine r_end ?_
                refine r_join_1 (sendL l s.m) ?_ (Keep.app (.n) (.c 0 rfl (.c 2 rfl (.c 3 rfl (.c 4 rfl (.c 5 rfl .n)))))) ?_
                · exact sendL_le hl2
                · first | exact Ent.rfl | (repeat (first | exact Ent.rfl | refine Ent.c (SelB.ent) ?_ | refine Ent.c (SelS.ent) ?_ | refine Ent.cN ?_ | refine Ent.c (SelX.ent) ?_ | refine Ent.dropR ?_))
            · skip
              refine r_seq ?_
              refine r_region ?_
              refine p_eql rfl rfl rfl ?_
              refine p_as rfl rfl ?_
              refine o_keep (.c 0 rfl (.c 2 rfl (.c 3 rfl (.c 4 rfl (.c 5 rfl (.c 6 rfl (.c 28 rfl (.c 39 rfl .n)))))))) ?_
              refine r_cond _ rfl (fun h6 => ?_) (fun h6 => ?_)
              · skip
                refine r_seq ?_
                refine r_region ?_
                refine p_mv rfl rfl ?_
                refine p_fa fa_33_1 rfl rfl ?_
                refine p_ldc tc_3 rfl (by rfl) rfl ?_
                refine p_callc cf_18 (.c rfl (.c rfl .n)) rfl (post_Take _ _ l (by omega) s.n) ?_
                refine p_mv rfl rfl ?_
                refine p_ext rfl rfl rfl ?_
                refine p_ext rfl rfl rfl ?_
                refine p_alloc zr_31 rfl fun b7 => ?_
                refine p_store (.ofA ta_31) rfl rfl rfl rfl rfl (by repeat constructor) ?_
                refine p_as rfl rfl ?_
                refine o_keep (.c 0 rfl (.c 2 rfl (.c 3 rfl (.c 4 rfl (.c 5 rfl (.c 6 rfl (.c 7 rfl (.c 8 rfl .n)))))))) ?_
                refine r_seq ?_
                refine r_region ?_
                refine p_fa fa_33_1 rfl rfl ?_
                refine p_ldc tc_3 rfl (by rfl) rfl ?_
                refine p_callc cf_19 (.c rfl (.c rfl .n)) rfl (bag_Take _ _ l (by omega) s.n) ?_
                refine p_mv rfl rfl ?_
                refine p_ext rfl rfl rfl ?_
                refine p_ext rfl rfl rfl ?_
                refine p_alloc zr_31 rfl fun b9 => ?_
                refine p_store (.ofA ta_31) rfl rfl rfl rfl rfl (by repeat constructor) ?_
                refine p_as rfl rfl ?_
                refine o_keep (.c 0 rfl (.c 2 rfl (.c 3 rfl (.c 4 rfl (.c 5 rfl (.c 7 rfl (.c 8 rfl (.c 9 rfl (.c 10 rfl .n))))))))) ?_
                refine r_seq ?_
                refine r_region ?_
                refine p_lda ta_31 rfl (by exact (.s (.s (.s (.s (.s (.s .z))))))) rfl ?_
                refine p_lda ta_31 rfl (by exact (.s (.s (.s (.s (.s (.s .z))))))) rfl ?_
                refine l_op (x_p (pv_ane (eq_Mail) (.n rfl) rfl rfl rfl (fun _ => ⟨rfl, rfl⟩)) rfl rfl ?_)
                refine p_mv rfl rfl ?_
                refine l_op (x_p (pv_mv (.s rfl rfl rfl) rfl rfl (by first | exact fun _ => rfl | exact id | exact fun h => (Bool.and_eq_true_iff.1 h).1 | simp_all)) rfl rfl ?_)
                refine l_op (x_p (pv_mv (.s rfl rfl rfl) rfl rfl (by first | exact fun _ => rfl | exact id | exact fun h => (Bool.and_eq_true_iff.1 h).1 | simp_all)) rfl rfl ?_)
                refine l_op (x_p (pv_bne Try.underlying4 (.s rfl rfl rfl) rfl rfl rfl (by refine fun h => ⟨?_, ?_⟩ <;> first | rfl | exact h | exact (Bool.and_eq_true_iff.1 h).1 | simp_all)) rfl rfl ?_)
                refine l_op (x_p (pv_or (.n rfl) rfl rfl rfl (fun _ => ⟨rfl, fun hc => by first | rfl | (rw [hc]; rfl) | simp_all⟩)) rfl rfl ?_)
                refine o_keep (.c 0 rfl (.c 2 rfl (.c 3 rfl (.c 4 rfl (.c 5 rfl (.c 61 rfl .n)))))) ?_
                refine r_cond _ rfl (fun h7 => ?_) (fun h7 => ?_)
                · simp at h7
                · skip
                  refine r_skip ?_
                  refine r_end ?_
                  refine r_join_1 (takeL l s.n) ?_ (Keep.app (.n) (.c 0 rfl (.c 2 rfl (.c 3 rfl (.c 4 rfl (.c 5 rfl .n)))))) ?_
                  · exact takeL_le hl2
                  · first | exact Ent.rfl | (repeat (first | exact Ent.rfl | refine Ent.c (SelB.ent) ?_ | refine Ent.c (SelS.ent) ?_ | refine Ent.cN ?_ | refine Ent.c (SelX.ent) ?_ | refine Ent.dropR ?_))
              · skip
                refine r_seq ?_
                refine r_region ?_
                refine p_eql rfl rfl rfl ?_
                refine p_as rfl rfl ?_
                refine o_keep (.c 0 rfl (.c 2 rfl (.c 3 rfl (.c 4 rfl (.c 5 rfl (.c 6 rfl (.c 62 rfl .n))))))) ?_
                refine r_cond _ rfl (fun h8 => ?_) (fun h8 => ?_)
                · skip
                  refine r_seq ?_
                  refine r_plan (_) ([postP b3 l, bagP b4 l]) mo (.c 0 rfl (.c 2 rfl (.c 3 rfl (.c 4 rfl (.c 5 rfl (.c 6 rfl .n)))))) ((Ent.c SelX.ent (Ent.c SelX.ent Ent.rfl))) ?_
                  refine qm_q (i := 0) (l := [.k 3]) rfl rfl rfl rfl (by kernel_rfl) rfl (fun He => PV.rq (pv_mv (.n rfl) rfl rfl (fun _ => rfl))) ?_
                  refine qm_q (i := 1) (l := [.k 6]) rfl rfl rfl rfl (by kernel_rfl) rfl (fun He => PV.rq (pv_fa fa_33_1 (.n rfl) rfl rfl (fun _ => rfl))) ?_
                  refine qm_q (i := 2) (l := [.o 1]) rfl rfl rfl rfl (by kernel_rfl) rfl (fun He => RV.rq (q_ldc tc_3 (.n rfl) rfl rfl (fun _ => rfl) (by rfl))) ?_
                  refine qm_q (i := 4) (l := [.k 6]) rfl rfl rfl rfl (by kernel_rfl) rfl (fun He => PV.rq (pv_fa fa_33_1 (.n rfl) rfl rfl (fun _ => rfl))) ?_
                  refine qm_q (i := 5) (l := [.o 4]) rfl rfl rfl rfl (by kernel_rfl) rfl (fun He => RV.rq (q_ldc tc_3 (.n rfl) rfl rfl (fun _ => rfl) (by rfl))) ?_
                  refine qm_callc (i := 3) [.o 0, .o 2] (by kernel_rfl) (by kernel_rfl) rfl rfl rfl rfl (by kernel_rfl) (by kernel_rfl) ⟨_, .n rfl, rfl⟩ cf_20 rfl (.c rfl (.c rfl .n)) (post_Double _ _ l (by omega) s.n) ?_
                  refine qb_callc (i := 6) [.k 4, .o 5] (by kernel_rfl) (by kernel_rfl) rfl rfl rfl rfl (by kernel_rfl) (by kernel_rfl) (by kernel_rfl) ⟨_, .n rfl, rfl⟩ cf_21 rfl (.c rfl (.c rfl .n)) (bag_Double _ _ l (by omega) s.n) ?_
                  refine qm_q (i := 7) (l := [.o 3, .o 6]) rfl rfl rfl rfl (by kernel_rfl) rfl (fun He => PV.rq (pv_bne Try.underlying4 (.n rfl) rfl rfl rfl (fun _ => ⟨rfl, rfl⟩))) ?_
                  refine qm_n (by kernel_rfl) (by kernel_rfl) (by kernel_rfl) (by kernel_rfl) (.c 0 rfl (.c 2 rfl (.c 3 rfl (.c 4 rfl (.c 5 rfl (.c 71 rfl .n)))))) ?_
                  refine r_cond _ rfl (fun h9 => ?_) (fun h9 => ?_)
                  · simp at h9
                  · skip
                    refine r_skip ?_
                    refine r_end ?_
                    refine r_join_1 (dblL l s.n) ?_ (Keep.app (.n) (.c 0 rfl (.c 2 rfl (.c 3 rfl (.c 4 rfl (.c 5 rfl .n)))))) ?_
                    · exact dblL_le hl2
                    · first | exact Ent.rfl | (repeat (first | exact Ent.rfl | refine Ent.c (SelB.ent) ?_ | refine Ent.c (SelS.ent) ?_ | refine Ent.cN ?_ | refine Ent.c (SelX.ent) ?_ | refine Ent.dropR ?_))
                · skip
                  refine r_skip ?_
                  refine r_end ?_
                  refine r_join_1 (l) ?_ (Keep.app (.n) (.c 0 rfl (.c 2 rfl (.c 3 rfl (.c 4 rfl (.c 5 rfl .n)))))) ?_
                  · exact hl2
                  · first | exact Ent.rfl | (repeat (first | exact Ent.rfl | refine Ent.c (SelB.ent) ?_ | refine Ent.c (SelS.ent) ?_ | refine Ent.cN ?_ | refine Ent.c (SelX.ent) ?_ | refine Ent.dropR ?_))
          refine r_seq ?_
          refine r_sel (bagP b4 l1) ?_
          refine r_ex fun pv => ?_
          refine r_cat ?_
          refine r_rd pv fun hr => ?_
          refine r_plan _ [] mo (.c 0 rfl (.c 2 rfl (.c 3 rfl (.c 4 rfl (.c 5 rfl .n))))) Ent.rfl ?_
          refine qm_q (i := 0) (l := [.k 3]) rfl rfl rfl rfl (by kernel_rfl) rfl (fun He => PV.rq (pv_mv (.n rfl) rfl rfl (fun _ => rfl))) ?_
          refine qm_q (i := 1) (l := [.o 0]) rfl rfl rfl rfl (by kernel_rfl) rfl (fun He => rq_call cf_22 (.n rfl) rfl (.c rfl (fun _ => rfl) .n) (fun hg => (post_Len _ _ l1).q)) ?_
          refine qm_q (i := 2) (l := [.k 4]) rfl rfl rfl rfl (by kernel_rfl) rfl (fun He => RV.rq (q_ldc tc_27 (.n rfl) rfl rfl (fun _ => rfl) (by rfl))) ?_
          refine qm_q (i := 3) (l := [.o 2]) rfl rfl rfl rfl (by kernel_rfl) rfl (fun He => PV.rq (pv_lens (Rd.len hr) ⟨_, Try.underlying27⟩ (.n rfl) rfl rfl rfl rfl (fun _ => rfl))) ?_
          refine qm_q (i := 4) (l := [.o 1, .o 3]) rfl rfl rfl rfl (by kernel_rfl) rfl (fun He => PV.rq (pv_to (pv_neq (.n rfl) rfl rfl rfl (fun _ => ⟨rfl, rfl⟩)) (show _ = Value.bool false by simp))) ?_
          refine qm_q (i := 5) (l := [.o 4]) rfl rfl rfl rfl (by kernel_rfl) rfl (fun He => PV.rq (pv_mv (.n rfl) rfl rfl (fun _ => rfl))) ?_
          refine qm_q (i := 6) (l := [.k 3, .o 5]) rfl rfl rfl rfl (by kernel_rfl) rfl (fun He => PV.rq (pv_mv (.s rfl rfl rfl) rfl rfl (by first | exact fun _ => rfl | exact id | exact fun h => (Bool.and_eq_true_iff.1 h).1 | simp_all))) ?_
          refine qm_q (i := 8) (l := [.k 4, .o 5]) rfl rfl rfl rfl (by kernel_rfl) rfl (fun He => RV.rq (q_ldc tc_27 (.s rfl rfl rfl) rfl rfl (by first | exact fun _ => rfl | exact id | exact fun h => (Bool.and_eq_true_iff.1 h).1 | simp_all) (by rfl))) ?_
          refine qm_calln (i := 7) [.o 6, .o 5] (by kernel_rfl) (by kernel_rfl) rfl rfl rfl rfl (by kernel_rfl) (by kernel_rfl) ⟨_, .s rfl rfl rfl, rfl⟩ cf_24 rfl (.c rfl .n) (post_ListN _ _ l1 (by omega)) fun qv => ?_
          refine qm_cat ?_
          refine qm_rd qv fun hrl => ?_
          refine qm_keep ?_
          refine qm_q (i := 9) (l := [.o 7, .o 8, .o 5]) rfl rfl rfl rfl (by kernel_rfl) rfl (fun He => rq_call cf_23 (.s rfl rfl rfl) rfl (.c rfl (by first | exact fun _ => rfl | exact id | exact fun h => (Bool.and_eq_true_iff.1 h).1 | simp_all) (.c rfl (by first | exact fun _ => rfl | exact id | exact fun h => (Bool.and_eq_true_iff.1 h).1 | simp_all) .n)) (fun hg => ref_SameMail _ _ _ _ l1 l1 hrl.own hr.own (by omega))) ?_
          refine qm_q (i := 10) (l := [.o 9, .o 5]) rfl rfl rfl rfl (by kernel_rfl) rfl (fun He => PV.rq (pv_not (.s rfl rfl rfl) rfl rfl (by first | exact fun _ => rfl | exact id | exact fun h => (Bool.and_eq_true_iff.1 h).1 | simp_all))) ?_
          refine qm_q (i := 11) (l := [.o 5, .o 10]) rfl rfl rfl rfl (by kernel_rfl) rfl (fun He => PV.rq (pv_or (.n rfl) rfl rfl rfl (fun _ => ⟨rfl, fun hc => by first | rfl | (rw [hc]; rfl) | simp_all⟩))) ?_
          refine qm_n (by kernel_rfl) (by kernel_rfl) (by kernel_rfl) (by kernel_rfl) (.c 0 rfl (.c 2 rfl (.c 3 rfl (.c 4 rfl (.c 5 rfl (.c 83 rfl .n)))))) ?_
          refine r_cond _ rfl (fun h10 => ?_) (fun h10 => ?_)
          · simp at h10
          · skip
            refine r_skip ?_
            refine r_end ?_
            refine r_region ?_
            refine p_mv rfl rfl ?_
            refine p_add rfl rfl (by omega) rfl ?_
            refine p_as rfl rfl ?_
            refine o_keep (.c 0 rfl (.c 2 rfl (.c 3 rfl (.c 4 rfl (.c 5 rfl .n))))) ?_
            refine r_back_2 (i + 1) (l1) ?_ ?_ (Keep.app (.c 5 rfl .n) (.c 0 rfl (.c 2 rfl (.c 3 rfl (.c 4 rfl .n))))) ?_
            · exact ⟨by omega, hI⟩
            · omega
            · refine Ent.c (SelX.ent) ?_; refine Ent.c (bagP_close rfl) ?_; first | exact Ent.rfl | (repeat (first | exact Ent.rfl | refine Ent.c (SelB.ent) ?_ | refine Ent.c (SelS.ent) ?_ | refine Ent.cN ?_ | refine Ent.c (SelX.ent) ?_ | refine Ent.dropR ?_))
        · skip
          refine r_exit rfl ?_
          refine r_seq ?_
          refine r_region ?_
          refine p_as rfl rfl ?_
          refine o_keep (.c 2 rfl .n) ?_
          refine r_retv hF rfl (.c (.t rfl) .n) ?_ ?_
          · first | exact Ent.rfl | (repeat (first | exact Ent.rfl | refine Ent.c (SelB.ent) ?_ | refine Ent.c (SelS.ent) ?_ | refine Ent.cN ?_ | refine Ent.c (SelX.ent) ?_ | refine Ent.dropR ?_))
          · rfl

theorem law_PostOrder (M : Amb) (H : List HP) (lv : Value) (ls : List PStep) (hl : Rd M [] lv 8 (ls.map rPS)) (s : PStep) : FnV Try.prog M H 5 [lv, .agg (rPS s).toArray] (.bool true) := by
  refine fn_intro Try.func5 rfl Try.ntmps5 rfl fun F hF => ?_
  refine r_seq ?_
  refine r_region ?_
  refine p_box rfl rfl rfl fun b3 => ?_
  refine p_as rfl rfl ?_
  refine o_keep (.c 0 rfl (.c 3 rfl (.c 4 rfl .n))) ?_
  refine r_seq ?_
  refine r_seq ?_
  refine r_region ?_
  refine p_callv cf_14 (.n) rfl (law_postBegun _ _) ?_
  refine p_not rfl rfl ?_
  refine o_keep (.c 0 rfl (.c 3 rfl (.c 4 rfl (.c 17 rfl .n)))) ?_
  refine r_cond _ rfl (fun h1 => ?_) (fun h1 => ?_)
  · simp at h1
  · skip
    refine r_skip ?_
    refine r_seq ?_
    refine r_seq ?_
    refine r_region ?_
    refine p_mv rfl rfl ?_
    refine l_op (x_p (pv_lens hl.len ⟨_, Try.underlying22⟩ (.n rfl) rfl rfl rfl rfl (fun _ => rfl)) rfl rfl ?_)
    refine p_gtr rfl rfl rfl ?_
    refine o_keep (.c 0 rfl (.c 3 rfl (.c 4 rfl (.c 20 rfl .n)))) ?_
    refine r_cond _ rfl (fun h2 => ?_) (fun h2 => ?_)
    · skip
      refine r_seq ?_
      refine r_region ?_
      refine p_as rfl rfl ?_
      refine o_keep (.c 0 rfl (.c 3 rfl (.c 4 rfl .n))) ?_
      refine r_retv hF rfl (.c (.t rfl) .n) ?_ ?_
      · first | exact Ent.rfl | (repeat (first | exact Ent.rfl | refine Ent.c (SelB.ent) ?_ | refine Ent.c (SelS.ent) ?_ | refine Ent.cN ?_ | refine Ent.c (SelX.ent) ?_ | refine Ent.dropR ?_))
      · first | rfl | exact bool_eq (by first | simp_all; done | (have := List.eq_nil_of_length_eq_zero h0; subst this; simp [takeL]))
    · skip
      have hL := of_decide_eq_false h2
      refine r_skip ?_
      refine r_seq ?_
      refine r_region ?_
      refine p_calle cf_15 (.n) rfl (post_New _) fun b5 => ?_
      refine o_cat ?_
      refine p_as rfl rfl ?_
      refine o_keep (.c 0 rfl (.c 3 rfl (.c 4 rfl (.c 5 rfl .n)))) ?_
      refine r_seq ?_
      refine r_seq ?_
      refine r_region ?_
      refine p_as rfl rfl ?_
      refine o_keep (.c 0 rfl (.c 3 rfl (.c 4 rfl (.c 5 rfl (.c 6 rfl .n))))) ?_
      refine r_block ?_
      refine r_loop_2 (fun (i : Nat) (l : List Mail) => [(6, true, .int .i64 (i : Int))]) (.c 0 rfl (.c 3 rfl (.c 4 rfl (.c 5 rfl .n)))) (fun (i : Nat) (l : List Mail) => postP b5 l :: blk b3 (rPS s) 33 :: H) (fun (i : Nat) (l : List Mail) => i ≤ ls.length ∧ l.length ≤ 40) (fun (i : Nat) (l : List Mail) => ls.length - i) (0) ([]) ?_ (.c 6 rfl .n) ?_ (fun i l hI => ?_)
      · exact ⟨Nat.zero_le _, by simp⟩
      · first | exact Ent.rfl | (repeat (first | exact Ent.rfl | refine Ent.c (SelB.ent) ?_ | refine Ent.c (SelS.ent) ?_ | refine Ent.cN ?_ | refine Ent.c (SelX.ent) ?_ | refine Ent.dropR ?_))
      · skip
        obtain ⟨hil, hl2⟩ := hI
        refine r_seq ?_
        refine r_seq ?_
        refine r_region ?_
        refine p_mv rfl rfl ?_
        refine p_mv rfl rfl ?_
        refine l_op (x_p (pv_lens hl.len ⟨_, Try.underlying22⟩ (.n rfl) rfl rfl rfl rfl (fun _ => rfl)) rfl rfl ?_)
        refine p_lss rfl rfl rfl ?_
        refine o_keep (.c 0 rfl (.c 3 rfl (.c 4 rfl (.c 5 rfl (.c 6 rfl (.c 25 rfl .n)))))) ?_
        refine r_cond _ rfl (fun h3 => ?_) (fun h3 => ?_)
        · skip
          have hi : i < ls.length := by have := of_decide_eq_true h3; omega
          obtain ⟨q, hq⟩ := getlt hi
          refine r_skip ?_
          refine r_seq ?_
          refine r_block ?_
          refine r_seq ?_
          refine r_region ?_
          refine p_mv rfl rfl ?_
          refine p_mv rfl rfl ?_
          refine p_idx Try.underlying22 (.ofA ta_33) hl rfl (mapget hq) rfl rfl rfl ?_
          refine p_faat fa_33_0 (Rd.sh hl (mapget hq)) rfl rfl ?_
          refine p_ldat 0 tc_3 (Rd.ent hl (by repeat (first | exact Ent.rfl | exact Ent.one Ent.h | exact Ent.one (SelS.ent) | exact Ent.nil | refine Ent.dropR ?_ | refine Ent.tr Ent.skip ?_))) (mapget hq) rfl rfl rfl rfl ?_
          refine o_keep (.c 0 rfl (.c 3 rfl (.c 4 rfl (.c 5 rfl (.c 6 rfl (.c 32 rfl .n)))))) ?_
          refine r_cut_1 (fun (l1 : List Mail) => []) (.c 0 rfl (.c 3 rfl (.c 4 rfl (.c 5 rfl (.c 6 rfl .n))))) (fun (l1 : List Mail) => postP b5 l1 :: blk b3 (rPS s) 33 :: H) (fun (l1 : List Mail) => l1.length ≤ 40) ?_ (fun l1 hI => ?_)
          · skip
            refine r_block ?_
            refine r_seq ?_
            refine r_region ?_
            refine p_eql rfl rfl rfl ?_
            refine p_as rfl rfl ?_
            refine o_keep (.c 0 rfl (.c 3 rfl (.c 4 rfl (.c 5 rfl (.c 6 rfl (.c 32 rfl (.c 33 rfl .n))))))) ?_
            refine r_cond _ rfl (fun h4 => ?_) (fun h4 => ?_)
            · skip
              refine r_region ?_
              refine p_mv rfl rfl ?_
              refine p_mv rfl rfl ?_
              refine p_mv rfl rfl ?_
              refine p_idx Try.underlying22 (.ofA ta_33) hl rfl (mapget hq) rfl rfl rfl ?_
              refine p_faat fa_33_2 (Rd.sh hl (mapget hq)) rfl rfl ?_
              refine p_ldats 2 ta_31 (Rd.ent hl (by repeat (first | exact Ent.rfl | exact Ent.one Ent.h | exact Ent.one (SelS.ent) | exact Ent.nil | refine Ent.dropR ?_ | refine Ent.tr Ent.skip ?_))) (mapget hq) rfl rfl (.s (.s (.s (.s (.s (.s .z)))))) rfl ?_
              refine p_callc cf_16 (.c rfl (.c rfl .n)) rfl (post_Send _ _ l (by omega) q.m) ?_
              refine o_keep (.c 0 rfl (.c 3 rfl (.c 4 rfl (.c 5 rfl (.c 6 rfl .n))))) ?_
              refine r_end ?_
              refine r_join_1 (sendL l q.m) ?_ (Keep.app (.n) (.c 0 rfl (.c 3 rfl (.c 4 rfl (.c 5 rfl (.c 6 rfl .n)))))) ?_
              · exact sendL_le hl2
              · first | exact Ent.rfl | (repeat (first | exact Ent.rfl | refine Ent.c (SelB.ent) ?_ | refine Ent.c (SelS.ent) ?_ | refine Ent.cN ?_ | refine Ent.c (SelX.ent) ?_ | refine Ent.dropR ?_))
            · skip
              refine r_seq ?_
              refine r_region ?_
              refine p_eql rfl rfl rfl ?_
              refine p_as rfl rfl ?_
              refine o_keep (.c 0 rfl (.c 3 rfl (.c 4 rfl (.c 5 rfl (.c 6 rfl (.c 32 rfl (.c 42 rfl .n))))))) ?_
              refine r_cond _ rfl (fun h5 => ?_) (fun h5 => ?_)
              · skip
                refine r_region ?_
                refine p_mv rfl rfl ?_
                refine p_mv rfl rfl ?_
                refine p_mv rfl rfl ?_
                refine p_idx Try.underlying22 (.ofA ta_33) hl rfl (mapget hq) rfl rfl rfl ?_
                refine p_faat fa_33_1 (Rd.sh hl (mapget hq)) rfl rfl ?_
                refine p_ldat 1 tc_3 (Rd.ent hl (by repeat (first | exact Ent.rfl | exact Ent.one Ent.h | exact Ent.one (SelS.ent) | exact Ent.nil | refine Ent.dropR ?_ | refine Ent.tr Ent.skip ?_))) (mapget hq) rfl rfl rfl rfl ?_
                refine p_callc cf_18 (.c rfl (.c rfl .n)) rfl (post_Take _ _ l (by omega) q.n) ?_
                refine o_keep (.c 0 rfl (.c 3 rfl (.c 4 rfl (.c 5 rfl (.c 6 rfl .n))))) ?_
                refine r_end ?_
                refine r_join_1 (takeL l q.n) ?_ (Keep.app (.n) (.c 0 rfl (.c 3 rfl (.c 4 rfl (.c 5 rfl (.c 6 rfl .n)))))) ?_
                · exact takeL_le hl2
                · first | exact Ent.rfl | (repeat (first | exact Ent.rfl | refine Ent.c (SelB.ent) ?_ | refine Ent.c (SelS.ent) ?_ | refine Ent.cN ?_ | refine Ent.c (SelX.ent) ?_ | refine Ent.dropR ?_))
              · skip
                refine r_seq ?_
                refine r_region ?_
                refine p_eql rfl rfl rfl ?_
                refine p_as rfl rfl ?_
                refine o_keep (.c 0 rfl (.c 3 rfl (.c 4 rfl (.c 5 rfl (.c 6 rfl (.c 51 rfl .n)))))) ?_
                refine r_cond _ rfl (fun h6 => ?_) (fun h6 => ?_)
                · skip
                  refine r_region ?_
                  refine p_mv rfl rfl ?_
                  refine p_mv rfl rfl ?_
                  refine p_mv rfl rfl ?_
                  refine p_idx Try.underlying22 (.ofA ta_33) hl rfl (mapget hq) rfl rfl rfl ?_
                  refine p_faat fa_33_1 (Rd.sh hl (mapget hq)) rfl rfl ?_
                  refine p_ldat 1 tc_3 (Rd.ent hl (by repeat (first | exact Ent.rfl | exact Ent.one Ent.h | exact Ent.one (SelS.ent) | exact Ent.nil | refine Ent.dropR ?_ | refine Ent.tr Ent.skip ?_))) (mapget hq) rfl rfl rfl rfl ?_
                  refine p_callc cf_20 (.c rfl (.c rfl .n)) rfl (post_Double _ _ l (by omega) q.n) ?_
                  refine o_keep (.c 0 rfl (.c 3 rfl (.c 4 rfl (.c 5 rfl (.c 6 rfl .n))))) ?_
                  refine r_end ?_
                  refine r_join_1 (dblL l q.n) ?_ (Keep.app (.n) (.c 0 rfl (.c 3 rfl (.c 4 rfl (.c 5 rfl (.c 6 rfl .n)))))) ?_
                  · exact dblL_le hl2
                  · first | exact Ent.rfl | (repeat (first | exact Ent.rfl | refine Ent.c (SelB.ent) ?_ | refine Ent.c (SelS.ent) ?_ | refine Ent.cN ?_ | refine Ent.c (SelX.ent) ?_ | refine Ent.dropR ?_))
                · skip
                  refine r_skip ?_
                  refine r_end ?_
                  refine r_join_1 (l) ?_ (Keep.app (.n) (.c 0 rfl (.c 3 rfl (.c 4 rfl (.c 5 rfl (.c 6 rfl .n)))))) ?_
                  · exact hl2
                  · first | exact Ent.rfl | (repeat (first | exact Ent.rfl | refine Ent.c (SelB.ent) ?_ | refine Ent.c (SelS.ent) ?_ | refine Ent.cN ?_ | refine Ent.c (SelX.ent) ?_ | refine Ent.dropR ?_))
          refine r_end ?_
          refine r_region ?_
          refine p_mv rfl rfl ?_
          refine p_add rfl rfl (by first | omega | exact u64_ne (by omega) (by omega)) rfl ?_
          refine p_as rfl rfl ?_
          refine o_keep (.c 0 rfl (.c 3 rfl (.c 4 rfl (.c 5 rfl (.c 6 rfl .n))))) ?_
          refine r_back_2 (i + 1) (l1) ?_ ?_ (Keep.app (.c 6 rfl .n) (.c 0 rfl (.c 3 rfl (.c 4 rfl (.c 5 rfl .n))))) ?_
          · exact ⟨by omega, hI⟩
          · omega
          · first | exact Ent.rfl | (repeat (first | exact Ent.rfl | refine Ent.c (SelB.ent) ?_ | refine Ent.c (SelS.ent) ?_ | refine Ent.cN ?_ | refine Ent.c (SelX.ent) ?_ | refine Ent.dropR ?_))
        · skip
          refine r_exit rfl ?_
          refine r_seq ?_
          refine r_region ?_
          refine p_mv rfl rfl ?_
          refine p_calle cf_24 (.c rfl .n) rfl (post_List _ _ l (by omega)) fun wv => ?_
          refine o_cat ?_
          refine o_rd wv fun hw => ?_
          refine p_as rfl rfl ?_
          refine o_keep (.c 3 rfl (.c 4 rfl (.c 5 rfl (.c 7 rfl .n)))) ?_
          refine r_seq ?_
          refine r_seq ?_
          refine r_region ?_
          refine p_fa fa_33_0 rfl rfl ?_
          refine p_ldc tc_3 rfl (by rfl) rfl ?_
          refine o_keep (.c 3 rfl (.c 4 rfl (.c 5 rfl (.c 7 rfl (.c 63 rfl .n))))) ?_
          refine r_block ?_
          refine r_seq ?_
          refine r_seq ?_
          refine r_region ?_
          refine p_eql rfl rfl rfl ?_
          refine p_as rfl rfl ?_
          refine o_keep (.c 3 rfl (.c 4 rfl (.c 5 rfl (.c 7 rfl (.c 63 rfl (.c 64 rfl .n)))))) ?_
          refine r_cut_1 (fun (c : Bool) => [(64, true, .bool c)]) (.c 3 rfl (.c 4 rfl (.c 5 rfl (.c 7 rfl (.c 63 rfl .n))))) (fun (c : Bool) => postP b5 l :: sl wv 31 6 (l.map rM) :: blk b3 (rPS s) 33 :: H) (fun (c : Bool) => c = true ↔ (s.d = 0 ∨ s.d = 2)) ?_ (fun c hI => ?_)
          · skip
            refine r_cond _ rfl (fun h7 => ?_) (fun h7 => ?_)
            · skip
              have h5 := h7
              refine r_skip ?_
              refine r_join_1 (decide (s.d = 0)) ?_ (Keep.app (.c 64 rfl .n) (.c 3 rfl (.c 4 rfl (.c 5 rfl (.c 7 rfl (.c 63 rfl .n)))))) ?_
              · simp at h5; simp [h5]
              · first | exact Ent.rfl | (repeat (first | exact Ent.rfl | refine Ent.c (SelB.ent) ?_ | refine Ent.c (SelS.ent) ?_ | refine Ent.cN ?_ | refine Ent.c (SelX.ent) ?_ | refine Ent.dropR ?_))
            · skip
              have h5 := h7
              refine r_region ?_
              refine p_eql rfl rfl rfl ?_
              refine p_as rfl rfl ?_
              refine o_keep (.c 3 rfl (.c 4 rfl (.c 5 rfl (.c 7 rfl (.c 63 rfl (.c 64 rfl .n)))))) ?_
              refine r_join_1 (decide (s.d = 2)) ?_ (Keep.app (.c 64 rfl .n) (.c 3 rfl (.c 4 rfl (.c 5 rfl (.c 7 rfl (.c 63 rfl .n)))))) ?_
              · simp at h5; simp [h5]
              · first | exact Ent.rfl | (repeat (first | exact Ent.rfl | refine Ent.c (SelB.ent) ?_ | refine Ent.c (SelS.ent) ?_ | refine Ent.cN ?_ | refine Ent.c (SelX.ent) ?_ | refine Ent.dropR ?_))
          refine r_cond _ rfl (fun h8 => ?_) (fun h8 => ?_)
          · skip
            have hd := hI.1 h8
            refine r_seq ?_
            refine r_region ?_
            refine p_as rfl rfl ?_
            refine o_keep (.c 3 rfl (.c 4 rfl (.c 5 rfl (.c 7 rfl (.c 8 rfl .n))))) ?_
            refine r_seq ?_
            refine r_seq ?_
            refine r_region ?_
            refine p_fa fa_33_0 rfl rfl ?_
            refine p_ldc tc_3 rfl (by rfl) rfl ?_
            refine p_eql rfl rfl rfl ?_
            refine o_keep (.c 3 rfl (.c 4 rfl (.c 5 rfl (.c 7 rfl (.c 8 rfl (.c 69 rfl .n)))))) ?_
            refine r_cut_2 (fun (ok : Bool) (l1 : List Mail) => [(8, true, .bool ok)]) (.c 3 rfl (.c 4 rfl (.c 5 rfl (.c 7 rfl .n)))) (fun (ok : Bool) (l1 : List Mail) => postP b5 l1 :: sl wv 31 6 (l.map rM) :: blk b3 (rPS s) 33 :: H) (fun (ok : Bool) (l1 : List Mail) => (ok = false → l1 = l) ∧ (ok = true → ∃ m, l1 = l ++ [m] ∧ ((s.d = 0 ∧ m = s.m) ∨ (s.d = 2 ∧ takeM l s.n = some m))) ∧ l1.length ≤ 40) ?_ (fun ok l1 hI => ?_)
            · skip
              refine r_cond _ rfl (fun h9 => ?_) (fun h9 => ?_)
              · skip
                have h7 := h9
                refine r_region ?_
                refine p_mv rfl rfl ?_
                refine p_fa fa_33_2 rfl rfl ?_
                refine p_lda ta_31 rfl (by exact (.s (.s (.s (.s (.s (.s .z))))))) rfl ?_
                refine p_callc cf_16 (.c rfl (.c rfl .n)) rfl (post_Send _ _ l (by omega) s.m) ?_
                refine p_as rfl rfl ?_
                refine o_keep (.c 3 rfl (.c 4 rfl (.c 5 rfl (.c 7 rfl (.c 8 rfl .n))))) ?_
                refine r_join_2 (decide (l.length < 40)) (sendL l s.m) ?_ (Keep.app (.c 8 rfl .n) (.c 3 rfl (.c 4 rfl (.c 5 rfl (.c 7 rfl .n))))) ?_
                · exact ord_send (of_decide_eq_true h7) hl2
                · first | exact Ent.rfl | (repeat (first | exact Ent.rfl | refine Ent.c (SelB.ent) ?_ | refine Ent.c (SelS.ent) ?_ | refine Ent.cN ?_ | refine Ent.c (SelX.ent) ?_ | refine Ent.dropR ?_))
              · skip
                have h7 := h9
                refine r_region ?_
                refine p_mv rfl rfl ?_
                refine p_fa fa_33_1 rfl rfl ?_
                refine p_ldc tc_3 rfl (by rfl) rfl ?_
                refine p_callc cf_20 (.c rfl (.c rfl .n)) rfl (post_Double _ _ l (by omega) s.n) ?_
                refine p_as rfl rfl ?_
                refine o_keep (.c 3 rfl (.c 4 rfl (.c 5 rfl (.c 7 rfl (.c 8 rfl .n))))) ?_
                refine r_join_2 (dblOk l) (dblL l s.n) ?_ (Keep.app (.c 8 rfl .n) (.c 3 rfl (.c 4 rfl (.c 5 rfl (.c 7 rfl .n))))) ?_
                · exact ord_dbl (by have := of_decide_eq_false h7; omega) hl2
                · first | exact Ent.rfl | (repeat (first | exact Ent.rfl | refine Ent.c (SelB.ent) ?_ | refine Ent.c (SelS.ent) ?_ | refine Ent.cN ?_ | refine Ent.c (SelX.ent) ?_ | refine Ent.dropR ?_))
            refine r_seq ?_
            refine r_region ?_
            refine p_mv rfl rfl ?_
            refine p_calle cf_24 (.c rfl .n) rfl (post_List _ _ l1 (by omega)) fun nv => ?_
            refine o_cat ?_
            refine o_rd nv fun hn => ?_
            refine p_as rfl rfl ?_
            refine o_keep (.c 3 rfl (.c 4 rfl (.c 7 rfl (.c 8 rfl (.c 9 rfl .n))))) ?_
            refine r_seq ?_
            refine r_seq ?_
            refine r_region ?_
            refine p_mv rfl rfl ?_
            refine p_not rfl rfl ?_
            refine o_keep (.c 3 rfl (.c 4 rfl (.c 7 rfl (.c 9 rfl (.c 81 rfl .n))))) ?_
            refine r_cond _ rfl (fun h10 => ?_) (fun h10 => ?_)
            · skip
              have hok : ok = false := by simpa using h10
              have e1 := hI.1 hok
              refine r_seq ?_
              refine r_region ?_
              refine p_mv rfl rfl ?_
              refine p_mv rfl rfl ?_
              refine p_callv cf_23 (.c rfl (.c rfl .n)) rfl (ref_SameMail _ _ _ _ l l1 hw.own hn.own (by omega)) ?_
              refine p_as rfl rfl ?_
              refine o_keep (.c 3 rfl (.c 4 rfl (.c 7 rfl (.c 9 rfl .n)))) ?_
              refine r_retv hF rfl (.c (.t rfl) .n) ?_ ?_
              · first | exact Ent.rfl | (repeat (first | exact Ent.rfl | refine Ent.c (SelB.ent) ?_ | refine Ent.c (SelS.ent) ?_ | refine Ent.cN ?_ | refine Ent.c (SelX.ent) ?_ | refine Ent.dropR ?_))
              · first | rfl | exact bool_eq (by first | simp_all; done | (have := List.eq_nil_of_length_eq_zero h0; subst this; simp [takeL]))
            · skip
              have hok : ok = true := by simpa using h10
              obtain ⟨m, rfl, hm⟩ := hI.2.1 hok
              refine r_skip ?_
              refine r_seq ?_
              refine r_region ?_
              refine p_fa fa_33_2 rfl rfl ?_
              refine p_lda ta_31 rfl (by exact (.s (.s (.s (.s (.s (.s .z))))))) rfl ?_
              refine p_alloc zr_31 rfl fun b10 => ?_
              refine p_store (.ofA ta_31) rfl rfl rfl rfl rfl (by repeat constructor) ?_
              refine o_keep (.c 3 rfl (.c 4 rfl (.c 7 rfl (.c 9 rfl (.c 10 rfl .n))))) ?_
              refine r_seq ?_
              refine r_seq ?_
              refine r_region ?_
              refine p_fa fa_33_0 rfl rfl ?_
              refine p_ldc tc_3 rfl (by rfl) rfl ?_
              refine p_eql rfl rfl rfl ?_
              refine o_keep (.c 3 rfl (.c 4 rfl (.c 7 rfl (.c 9 rfl (.c 10 rfl (.c 89 rfl .n)))))) ?_
              refine r_cut_1 (fun (z : Unit) => []) (.c 4 rfl (.c 7 rfl (.c 9 rfl (.c 10 rfl .n)))) (fun (z : Unit) => blk b10 (rM m) 31 :: sl nv 31 6 ((l ++ [m]).map rM) :: sl wv 31 6 (l.map rM) :: H) (fun (z : Unit) => True) ?_ (fun z hI => ?_)
              · skip
                refine r_cond _ rfl (fun h11 => ?_) (fun h11 => ?_)
                · skip
                  have hm2 : takeM l s.n = some m := by rcases hm with ⟨q1, _⟩ | ⟨_, q2⟩; (simp at h11; omega); exact q2
                  refine r_seq ?_
                  refine r_seq ?_
                  refine r_region ?_
                  refine p_mv rfl rfl ?_
                  refine l_op (x_p (pv_lens (Rd.len hw) ⟨_, Try.underlying26⟩ (.n rfl) rfl rfl rfl rfl (fun _ => rfl)) rfl rfl ?_)
                  refine p_eql rfl rfl rfl ?_
                  refine o_keep (.c 3 rfl (.c 4 rfl (.c 7 rfl (.c 9 rfl (.c 10 rfl (.c 92 rfl .n)))))) ?_
                  refine r_cond _ rfl (fun h12 => ?_) (fun h12 => ?_)
                  · exfalso; have h0 : l.length = 0 := (by have := of_decide_eq_true h12; omega); rcases hm with ⟨hx, _⟩ | ⟨_, hx⟩ <;> simp_all [takeM]
                  · skip
                    have h0 : 0 < l.length := by have := of_decide_eq_false h12; omega
                    refine r_skip ?_
                    refine r_region ?_
                    refine p_mv rfl rfl ?_
                    refine p_fa fa_33_1 rfl rfl ?_
                    refine p_ldc tc_3 rfl (by rfl) rfl ?_
                    refine l_op (x_p (pv_conv Try.underlying3 Try.underlying42 (.n rfl) rfl rfl (fun _ => rfl)) rfl rfl ?_)
                    refine p_mv rfl rfl ?_
                    refine l_op (x_p (pv_lens (Rd.len hw) ⟨_, Try.underlying26⟩ (.n rfl) rfl rfl rfl rfl (fun _ => rfl)) rfl rfl ?_)
                    refine l_op (x_p (pv_conv Try.underlying3 Try.underlying42 (.n rfl) rfl rfl (fun _ => rfl)) rfl rfl ?_)
                    refine l_op (x_p (pv_rem (fun _ => by first | omega | exact u64_ne (by omega) (by omega)) (.n rfl) rfl rfl rfl (fun _ => ⟨rfl, rfl⟩)) rfl rfl ?_)
                    refine l_op (x_p (pv_conv Try.underlying42 Try.underlying3 (.n rfl) rfl rfl (fun _ => rfl)) rfl rfl ?_)
                    refine p_idx Try.underlying26 (.ofA ta_31) hw (rnd_eq (by omega) (by omega)) (mapget hm2) rfl rfl rfl ?_
                    refine p_ldats 0 ta_31 (Rd.ent hw (by repeat (first | exact Ent.rfl | exact Ent.one Ent.h | exact Ent.one (SelS.ent) | exact Ent.nil | refine Ent.dropR ?_ | refine Ent.tr Ent.skip ?_))) (mapget hm2) rfl rfl (.s (.s (.s (.s (.s (.s .z)))))) rfl ?_
                    refine p_store (.ofA ta_31) rfl rfl rfl rfl rfl (by repeat constructor) ?_
                    refine o_keep (.c 4 rfl (.c 7 rfl (.c 9 rfl (.c 10 rfl .n)))) ?_
                    refine r_join_1 (()) ?_ (Keep.app (.n) (.c 4 rfl (.c 7 rfl (.c 9 rfl (.c 10 rfl .n))))) ?_
                    · trivial
                    · first | exact Ent.rfl | (repeat (first | exact Ent.rfl | refine Ent.c (SelB.ent) ?_ | refine Ent.c (SelS.ent) ?_ | refine Ent.cN ?_ | refine Ent.c (SelX.ent) ?_ | refine Ent.dropR ?_))
                · skip
                  have hms : m = s.m := by rcases hm with ⟨_, q⟩ | ⟨q, _⟩; exact q; (simp at h11; omega)
                  subst hms
                  refine r_skip ?_
                  refine r_join_1 (()) ?_ (Keep.app (.n) (.c 4 rfl (.c 7 rfl (.c 9 rfl (.c 10 rfl .n))))) ?_
                  · trivial
                  · first | exact Ent.rfl | (repeat (first | exact Ent.rfl | refine Ent.c (SelB.ent) ?_ | refine Ent.c (SelS.ent) ?_ | refine Ent.cN ?_ | refine Ent.c (SelX.ent) ?_ | refine Ent.dropR ?_))
              refine r_seq ?_
              have hnt := (hn.resl (Nat.zero_le _) (show l.length ≤ ((l ++ [m]).map rM).length by simp)).to (rows' := l.map rM) (by simp)
              have hlast : (l ++ [m])[l.length]? = some m := by simp
              refine r_plan _ [] mo (.c 7 rfl (.c 9 rfl (.c 10 rfl .n))) Ent.rfl ?_
              refine qm_q (i := 0) (l := [.k 9]) rfl rfl rfl rfl (by kernel_rfl) rfl (fun He => PV.rq (pv_mv (.n rfl) rfl rfl (fun _ => rfl))) ?_
              refine qm_q (i := 1) (l := [.o 0]) rfl rfl rfl rfl (by kernel_rfl) rfl (fun He => PV.rq (pv_lens (Rd.len hn) ⟨_, Try.underlying26⟩ (.n rfl) rfl rfl rfl rfl (fun _ => rfl))) ?_
              refine qm_q (i := 2) (l := [.k 7]) rfl rfl rfl rfl (by kernel_rfl) rfl (fun He => PV.rq (pv_mv (.n rfl) rfl rfl (fun _ => rfl))) ?_
              refine qm_q (i := 3) (l := [.o 2]) rfl rfl rfl rfl (by kernel_rfl) rfl (fun He => PV.rq (pv_lens (Rd.len hw) ⟨_, Try.underlying26⟩ (.n rfl) rfl rfl rfl rfl (fun _ => rfl))) ?_
              refine qm_q (i := 4) (l := [.o 3]) rfl rfl rfl rfl (by kernel_rfl) rfl (fun He => PV.rq (pv_add (fun _ => by first | omega | exact u64_ne (by omega) (by omega)) (.n rfl) rfl rfl rfl (fun _ => ⟨rfl, rfl⟩))) ?_
              refine qm_q (i := 5) (l := [.o 1, .o 4]) rfl rfl rfl rfl (by kernel_rfl) rfl (fun He => PV.rq (pv_to (pv_eql (.n rfl) rfl rfl rfl (fun _ => ⟨rfl, rfl⟩)) (show _ = Value.bool true by simp))) ?_
              refine qm_q (i := 6) (l := [.o 5]) rfl rfl rfl rfl (by kernel_rfl) rfl (fun He => PV.rq (pv_mv (.n rfl) rfl rfl (fun _ => rfl))) ?_
              refine qm_q (i := 7) (l := [.k 9, .o 6]) rfl rfl rfl rfl (by kernel_rfl) rfl (fun He => PV.rq (pv_ung (.s rfl rfl rfl) rfl (pv_mv (.n rfl) rfl rfl (fun _ => rfl)))) ?_
              refine qm_q (i := 8) (l := [.k 7, .o 6]) rfl rfl rfl rfl (by kernel_rfl) rfl (fun He => PV.rq (pv_ung (.s rfl rfl rfl) rfl (pv_mv (.n rfl) rfl rfl (fun _ => rfl)))) ?_
              refine qm_q (i := 9) (l := [.o 8, .o 6]) rfl rfl rfl rfl (by kernel_rfl) rfl (fun He => PV.rq (pv_ung (.s rfl rfl rfl) rfl (pv_lens (Rd.len hw) ⟨_, Try.underlying26⟩ (.n rfl) rfl rfl rfl rfl (fun _ => rfl)))) ?_
              refine qm_q (i := 10) (l := [.o 7, .o 9, .o 6]) rfl rfl rfl rfl (by kernel_rfl) rfl (fun He => PV.rq (pv_ung (.s rfl rfl rfl) rfl (pv_slc (l := 0) (h := l.length) Try.underlying26 (.ofA ta_31) hn (Nat.zero_le _) (by simp) rfl rfl rfl (.inl ⟨rfl, rfl, rfl⟩) (.inr ⟨_, _, rfl, rfl, rfl⟩)))) ?_
              refine qm_q (i := 11) (l := [.k 7, .o 6]) rfl rfl rfl rfl (by kernel_rfl) rfl (fun He => PV.rq (pv_ung (.s rfl rfl rfl) rfl (pv_mv (.n rfl) rfl rfl (fun _ => rfl)))) ?_
              refine qm_q (i := 12) (l := [.o 10, .o 11, .o 6]) rfl rfl rfl rfl (by kernel_rfl) rfl (fun He => rq_ung (.s rfl rfl rfl) rfl (rq_call cf_23 (.n rfl) rfl (.c rfl (fun _ => rfl) (.c rfl (fun _ => rfl) .n)) (fun hg => ref_SameMail _ _ _ _ l l (Rd.ent hnt (Ent.one SelS.ent)) hw.own (by omega)))) ?_
              refine qm_q (i := 13) (l := [.o 6, .o 12]) rfl rfl rfl rfl (by kernel_rfl) rfl (fun He => PV.rq (pv_to (pv_and (.n rfl) rfl rfl rfl (fun _ => ⟨rfl, fun _ => rfl⟩)) (show _ = Value.bool true by simp))) ?_
              refine qm_q (i := 14) (l := [.o 13]) rfl rfl rfl rfl (by kernel_rfl) rfl (fun He => PV.rq (pv_mv (.n rfl) rfl rfl (fun _ => rfl))) ?_
              refine qm_q (i := 15) (l := [.k 9, .o 14]) rfl rfl rfl rfl (by kernel_rfl) rfl (fun He => PV.rq (pv_ung (.s rfl rfl rfl) rfl (pv_mv (.n rfl) rfl rfl (fun _ => rfl)))) ?_
              refine qm_q (i := 16) (l := [.k 7, .o 14]) rfl rfl rfl rfl (by kernel_rfl) rfl (fun He => PV.rq (pv_ung (.s rfl rfl rfl) rfl (pv_mv (.n rfl) rfl rfl (fun _ => rfl)))) ?_
              refine qm_q (i := 17) (l := [.o 16, .o 14]) rfl rfl rfl rfl (by kernel_rfl) rfl (fun He => PV.rq (pv_ung (.s rfl rfl rfl) rfl (pv_lens (Rd.len hw) ⟨_, Try.underlying26⟩ (.n rfl) rfl rfl rfl rfl (fun _ => rfl)))) ?_
              refine qm_q (i := 18) (l := [.o 15, .o 17, .o 14]) rfl rfl rfl rfl (by kernel_rfl) rfl (fun He => PV.rq (pv_ung (.s rfl rfl rfl) rfl (pv_idx Try.underlying26 (.ofA ta_31) hn (fun hg => ⟨rfl, (mapget hlast)⟩) (.n rfl) rfl rfl rfl (fun _ => ⟨rfl, rfl⟩)))) ?_
              refine qm_q (i := 19) (l := [.o 18, .o 14]) rfl rfl rfl rfl (by kernel_rfl) rfl (fun He => RV.rq (rv_ung (.s rfl rfl rfl) rfl (rv_ldats (j := 0) ta_31 (Rd.ent hn (by repeat (first | exact Ent.rfl | exact Ent.one Ent.h | exact Ent.one (SelS.ent) | exact Ent.nil | refine Ent.dropR ?_ | refine Ent.tr Ent.skip ?_))) (fun hg => (mapget hlast)) (.n rfl) rfl rfl (fun _ => rfl) rfl (.s (.s (.s (.s (.s (.s .z))))))))) ?_
              refine qm_q (i := 20) (l := [.k 10, .o 14]) rfl rfl rfl rfl (by kernel_rfl) rfl (fun He => RV.rq (rv_ung (.s rfl rfl rfl) rfl (q_lda ta_31 (.n rfl) rfl rfl (fun _ => rfl) (by exact (.s (.s (.s (.s (.s (.s .z)))))))))) ?_
              refine qm_q (i := 21) (l := [.o 19, .o 20, .o 14]) rfl rfl rfl rfl (by kernel_rfl) rfl (fun He => PV.rq (pv_ung (.s rfl rfl rfl) rfl (pv_aeq (eq_Mail) (.n rfl) rfl rfl rfl (fun _ => ⟨rfl, rfl⟩)))) ?_
              refine qm_q (i := 22) (l := [.o 14, .o 21]) rfl rfl rfl rfl (by kernel_rfl) rfl (fun He => PV.rq (pv_and (.n rfl) rfl rfl rfl (fun _ => ⟨rfl, fun hc => by first | rfl | (rw [hc]; rfl) | simp_all⟩))) ?_
              refine qm_q (i := 23) (l := [.o 22]) rfl rfl rfl rfl (by kernel_rfl) rfl (fun He => PV.rq (pv_as (.n rfl) rfl rfl (fun _ => rfl))) ?_
              refine qm_n (by kernel_rfl) (by kernel_rfl) (by kernel_rfl) (by kernel_rfl) (.c 4 rfl .n) ?_
              refine r_retv hF rfl (.c (.t rfl) .n) ?_ ?_
              · first | exact Ent.rfl | (repeat (first | exact Ent.rfl | refine Ent.c (SelB.ent) ?_ | refine Ent.c (SelS.ent) ?_ | refine Ent.cN ?_ | refine Ent.c (SelX.ent) ?_ | refine Ent.dropR ?_))
              · first | rfl | exact bool_eq (by first | simp_all; done | (have := List.eq_nil_of_length_eq_zero h0; subst this; simp [takeL]))
          · skip
            refine r_seq ?_
            refine r_region ?_
            refine p_eql rfl rfl rfl ?_
            refine p_as rfl rfl ?_
            refine o_keep (.c 3 rfl (.c 4 rfl (.c 5 rfl (.c 7 rfl (.c 127 rfl .n))))) ?_
            refine r_cond _ rfl (fun h13 => ?_) (fun h13 => ?_)
            · skip
              refine r_seq ?_
              refine r_region ?_
              refine p_mv rfl rfl ?_
              refine p_fa fa_33_1 rfl rfl ?_
              refine p_ldc tc_3 rfl (by rfl) rfl ?_
              refine p_callc cf_18 (.c rfl (.c rfl .n)) rfl (post_Take _ _ l (by omega) s.n) ?_
              refine p_mv rfl rfl ?_
              refine p_ext rfl rfl rfl ?_
              refine p_ext rfl rfl rfl ?_
              refine p_alloc zr_31 rfl fun b11 => ?_
              refine p_store (.ofA ta_31) rfl rfl rfl rfl rfl (by repeat constructor) ?_
              refine p_as rfl rfl ?_
              refine o_keep (.c 3 rfl (.c 4 rfl (.c 5 rfl (.c 7 rfl (.c 11 rfl (.c 12 rfl .n)))))) ?_
              refine r_seq ?_
              refine r_region ?_
              refine p_mv rfl rfl ?_
              refine p_calle cf_24 (.c rfl .n) rfl (post_List _ _ (takeL l s.n) (by have := takeL_le (n := s.n) hl2; omega)) fun nv => ?_
              refine o_cat ?_
              refine o_rd nv fun hn => ?_
              refine p_as rfl rfl ?_
              refine o_keep (.c 3 rfl (.c 4 rfl (.c 7 rfl (.c 11 rfl (.c 12 rfl (.c 13 rfl .n)))))) ?_
              refine r_seq ?_
              refine r_seq ?_
              refine r_region ?_
              refine p_mv rfl rfl ?_
              refine p_not rfl rfl ?_
              refine o_keep (.c 3 rfl (.c 4 rfl (.c 7 rfl (.c 11 rfl (.c 13 rfl (.c 139 rfl .n)))))) ?_
              refine r_cond _ rfl (fun h14 => ?_) (fun h14 => ?_)
              · skip
                have h0 : l.length = 0 := by rw [takeM_isSome] at h14; simp at h14; simp [h14]
                refine r_seq ?_
                refine r_region ?_
                refine p_mv rfl rfl ?_
                refine l_op (x_p (pv_lens (Rd.len hw) ⟨_, Try.underlying26⟩ (.n rfl) rfl rfl rfl rfl (fun _ => rfl)) rfl rfl ?_)
                refine p_eql rfl rfl rfl ?_
                refine p_mv rfl rfl ?_
                refine l_op (x_p (pv_mv (.s rfl rfl rfl) rfl rfl (by first | exact fun _ => rfl | exact id | exact fun h => (Bool.and_eq_true_iff.1 h).1 | simp_all)) rfl rfl ?_)
                refine l_op (x_p (pv_lens (Rd.len hn) ⟨_, Try.underlying26⟩ (.s rfl rfl rfl) rfl rfl rfl rfl (by first | exact fun _ => rfl | exact id | exact fun h => (Bool.and_eq_true_iff.1 h).1 | simp_all)) rfl rfl ?_)
                refine l_op (x_p (pv_eql (.s rfl rfl rfl) rfl rfl rfl (by refine fun h => ⟨?_, ?_⟩ <;> first | rfl | exact h | exact (Bool.and_eq_true_iff.1 h).1 | simp_all)) rfl rfl ?_)
                refine l_op (x_p (pv_and (.n rfl) rfl rfl rfl (fun _ => ⟨rfl, fun hc => by first | rfl | (rw [hc]; rfl) | simp_all⟩)) rfl rfl ?_)
                refine p_as rfl rfl ?_
                refine o_keep (.c 3 rfl (.c 4 rfl (.c 7 rfl (.c 11 rfl (.c 13 rfl .n))))) ?_
                refine r_retv hF rfl (.c (.t rfl) .n) ?_ ?_
                · first | exact Ent.rfl | (repeat (first | exact Ent.rfl | refine Ent.c (SelB.ent) ?_ | refine Ent.c (SelS.ent) ?_ | refine Ent.cN ?_ | refine Ent.c (SelX.ent) ?_ | refine Ent.dropR ?_))
                · first | rfl | exact bool_eq (by first | simp_all; done | (have := List.eq_nil_of_length_eq_zero h0; subst this; simp [takeL]))
              · skip
                have h0 : 0 < l.length := by rw [takeM_isSome] at h14; simpa using h14
                have hi := rnd_lt (n := s.n) h0
                obtain ⟨m, hm⟩ := takeM_some (l := l) s.n h0
                refine r_skip ?_
                refine r_seq ?_
                refine r_seq ?_
                refine r_region ?_
                refine p_mv rfl rfl ?_
                refine l_op (x_p (pv_lens (Rd.len hw) ⟨_, Try.underlying26⟩ (.n rfl) rfl rfl rfl rfl (fun _ => rfl)) rfl rfl ?_)
                refine p_eql rfl rfl rfl ?_
                refine o_keep (.c 3 rfl (.c 4 rfl (.c 7 rfl (.c 11 rfl (.c 13 rfl (.c 150 rfl .n)))))) ?_
                refine r_cond _ rfl (fun h15 => ?_) (fun h15 => ?_)
                · exfalso; have := of_decide_eq_true h15; omega
                · skip
                  refine r_skip ?_
                  refine r_seq ?_
                  refine r_region ?_
                  refine p_fa fa_33_1 rfl rfl ?_
                  refine p_ldc tc_3 rfl (by rfl) rfl ?_
                  refine l_op (x_p (pv_conv Try.underlying3 Try.underlying42 (.n rfl) rfl rfl (fun _ => rfl)) rfl rfl ?_)
                  refine p_mv rfl rfl ?_
                  refine l_op (x_p (pv_lens (Rd.len hw) ⟨_, Try.underlying26⟩ (.n rfl) rfl rfl rfl rfl (fun _ => rfl)) rfl rfl ?_)
                  refine l_op (x_p (pv_conv Try.underlying3 Try.underlying42 (.n rfl) rfl rfl (fun _ => rfl)) rfl rfl ?_)
                  refine l_op (x_p (pv_rem (fun _ => by first | omega | exact u64_ne (by omega) (by omega)) (.n rfl) rfl rfl rfl (fun _ => ⟨rfl, rfl⟩)) rfl rfl ?_)
                  refine l_op (x_p (pv_conv Try.underlying42 Try.underlying3 (.n rfl) rfl rfl (fun _ => rfl)) rfl rfl ?_)
                  refine p_as rfl rfl ?_
                  refine o_keep (.c 4 rfl (.c 7 rfl (.c 11 rfl (.c 13 rfl (.c 14 rfl .n))))) ?_
                  rw [rnd_eq (by omega) (by omega)]
                  refine r_seq ?_
                  refine r_region ?_
                  refine p_as rfl rfl ?_
                  refine o_keep (.c 4 rfl (.c 7 rfl (.c 11 rfl (.c 13 rfl (.c 14 rfl (.c 15 rfl .n)))))) ?_
                  refine r_seq ?_
                  refine r_plan (_) ([sl (.slice Option.none 0 0) 31 6 []]) mo (.c 4 rfl (.c 7 rfl (.c 11 rfl (.c 13 rfl (.c 14 rfl (.c 15 rfl .n)))))) (Ent.slN) ?_
                  refine qm_q (i := 0) (l := [.k 15]) rfl rfl rfl rfl (by kernel_rfl) rfl (fun He => PV.rq (pv_mv (.n rfl) rfl rfl (fun _ => rfl))) ?_
                  refine qm_q (i := 1) (l := [.k 7]) rfl rfl rfl rfl (by kernel_rfl) rfl (fun He => PV.rq (pv_mv (.n rfl) rfl rfl (fun _ => rfl))) ?_
                  refine qm_q (i := 2) (l := [.k 14]) rfl rfl rfl rfl (by kernel_rfl) rfl (fun He => PV.rq (pv_mv (.n rfl) rfl rfl (fun _ => rfl))) ?_
                  refine qm_q (i := 3) (l := [.o 1, .o 2]) rfl rfl rfl rfl (by kernel_rfl) rfl (fun He => PV.rq (pv_slc (l := 0) (h := rnd s.n l.length) Try.underlying26 (.ofA ta_31) hw (Nat.zero_le _) (by rw [List.length_map]; omega) rfl rfl rfl (.inl ⟨rfl, rfl, rfl⟩) (.inr ⟨_, _, rfl, rfl, rfl⟩))) ?_
                  refine qm_q (i := 5) (l := [.k 7]) rfl rfl rfl rfl (by kernel_rfl) rfl (fun He => PV.rq (pv_mv (.n rfl) rfl rfl (fun _ => rfl))) ?_
                  refine qm_q (i := 6) (l := [.k 14]) rfl rfl rfl rfl (by kernel_rfl) rfl (fun He => PV.rq (pv_mv (.n rfl) rfl rfl (fun _ => rfl))) ?_
                  refine qm_q (i := 7) (l := [.o 6]) rfl rfl rfl rfl (by kernel_rfl) rfl (fun He => PV.rq (pv_add (fun _ => by first | omega | exact u64_ne (by omega) (by omega)) (.n rfl) rfl rfl rfl (fun _ => ⟨rfl, rfl⟩))) ?_
                  refine qm_q (i := 8) (l := [.o 5, .o 7]) rfl rfl rfl rfl (by kernel_rfl) rfl (fun He => PV.rq (pv_slc (l := rnd s.n l.length + 1) (h := (l.map rM).length) Try.underlying26 (.ofA ta_31) hw (by rw [List.length_map]; omega) (Nat.le_refl _) rfl rfl rfl (.inr ⟨_, _, rfl, rfl, rfl⟩) (.inl ⟨rfl, rfl, rfl⟩))) ?_
                  refine qa_append Try.underlying26 el_31 rfl rfl (i := 4) [.o 0, .o 3] (by kernel_rfl) (by kernel_rfl) rfl rfl rfl rfl (by kernel_rfl) (by kernel_rfl) ⟨_, .n rfl, rfl⟩ rfl rfl rfl (Rd.ent (hw.resl (Nat.zero_le _) (show rnd s.n l.length ≤ (l.map rM).length by rw [List.length_map]; omega)) (Ent.one SelS.ent)) (by simp; omega) fun v163 => ?_
                  refine qm_rd v163 fun hr163 => ?_
                  refine qa_append Try.underlying26 el_31 rfl rfl (i := 9) [.o 4, .o 8] (by kernel_rfl) (by kernel_rfl) rfl rfl rfl rfl (by kernel_rfl) (by kernel_rfl) ⟨_, .n rfl, rfl⟩ rfl rfl rfl (Rd.ent (hw.resl (show rnd s.n l.length + 1 ≤ (l.map rM).length by rw [List.length_map]; omega) (Nat.le_refl _)) (Ent.one SelS.ent)) (by simp; omega) fun v168 => ?_
                  refine qm_rd v168 fun hr168 => ?_
                  refine qm_q (i := 10) (l := [.o 9]) rfl rfl rfl rfl (by kernel_rfl) rfl (fun He => PV.rq (pv_as (.n rfl) rfl rfl (fun _ => rfl))) ?_
                  refine qm_n (by kernel_rfl) (by kernel_rfl) (by kernel_rfl) (by kernel_rfl) (.c 4 rfl (.c 7 rfl (.c 11 rfl (.c 13 rfl (.c 14 rfl (.c 15 rfl .n)))))) ?_
                  refine r_seq ?_
                  refine r_rd v168 fun hrest0 => ?_
                  have hrest := hrest0.to (rows' := (takeL l s.n).map rM) (by rw [List.take_length]; simp [takeL])
                  refine r_plan _ [] mo (.c 7 rfl (.c 11 rfl (.c 13 rfl (.c 14 rfl (.c 15 rfl .n))))) Ent.rfl ?_
                  refine qm_q (i := 0) (l := [.k 11]) rfl rfl rfl rfl (by kernel_rfl) rfl (fun He => RV.rq (q_lda ta_31 (.n rfl) rfl rfl (fun _ => rfl) (by exact (.s (.s (.s (.s (.s (.s .z))))))))) ?_
                  refine qm_q (i := 1) (l := [.k 7]) rfl rfl rfl rfl (by kernel_rfl) rfl (fun He => PV.rq (pv_mv (.n rfl) rfl rfl (fun _ => rfl))) ?_
                  refine qm_q (i := 2) (l := [.k 14]) rfl rfl rfl rfl (by kernel_rfl) rfl (fun He => PV.rq (pv_mv (.n rfl) rfl rfl (fun _ => rfl))) ?_
                  refine qm_q (i := 3) (l := [.o 1, .o 2]) rfl rfl rfl rfl (by kernel_rfl) rfl (fun He => PV.rq (pv_idx Try.underlying26 (.ofA ta_31) hw (fun hg => ⟨rfl, (mapget hm)⟩) (.n rfl) rfl rfl rfl (fun _ => ⟨rfl, rfl⟩))) ?_
                  refine qm_q (i := 4) (l := [.o 3]) rfl rfl rfl rfl (by kernel_rfl) rfl (fun He => RV.rq (rv_ldats (j := 0) ta_31 (Rd.ent hw (by repeat (first | exact Ent.rfl | exact Ent.one Ent.h | exact Ent.one (SelS.ent) | exact Ent.nil | refine Ent.dropR ?_ | refine Ent.tr Ent.skip ?_))) (fun hg => (mapget hm)) (.n rfl) rfl rfl (fun _ => rfl) rfl (.s (.s (.s (.s (.s (.s .z)))))))) ?_
                  refine qm_q (i := 5) (l := [.o 0, .o 4]) rfl rfl rfl rfl (by kernel_rfl) rfl (fun He => PV.rq (pv_to (pv_aeq eq_Mail (.n rfl) rfl rfl rfl (fun _ => ⟨rfl, rfl⟩)) (show _ = Value.bool true by simp [hm]))) ?_
                  refine qm_q (i := 6) (l := [.o 5]) rfl rfl rfl rfl (by kernel_rfl) rfl (fun He => PV.rq (pv_mv (.n rfl) rfl rfl (fun _ => rfl))) ?_
                  refine qm_q (i := 7) (l := [.k 15, .o 6]) rfl rfl rfl rfl (by kernel_rfl) rfl (fun He => PV.rq (pv_ung (.s rfl rfl rfl) rfl (pv_mv (.n rfl) rfl rfl (fun _ => rfl)))) ?_
                  refine qm_q (i := 8) (l := [.k 13, .o 6]) rfl rfl rfl rfl (by kernel_rfl) rfl (fun He => PV.rq (pv_ung (.s rfl rfl rfl) rfl (pv_mv (.n rfl) rfl rfl (fun _ => rfl)))) ?_
                  refine qm_q (i := 9) (l := [.o 7, .o 8, .o 6]) rfl rfl rfl rfl (by kernel_rfl) rfl (fun He => rq_ung (.s rfl rfl rfl) rfl (rq_call cf_23 (.n rfl) rfl (.c rfl (fun _ => rfl) (.c rfl (fun _ => rfl) .n)) (fun hg => ref_SameMail _ _ _ _ (takeL l s.n) (takeL l s.n) (Rd.ent hrest (Ent.one SelS.ent)) hn.own (by have := takeL_le (n := s.n) hl2; omega)))) ?_
                  refine qm_q (i := 10) (l := [.o 6, .o 9]) rfl rfl rfl rfl (by kernel_rfl) rfl (fun He => PV.rq (pv_and (.n rfl) rfl rfl rfl (fun _ => ⟨rfl, fun hc => by first | rfl | (rw [hc]; rfl) | simp_all⟩))) ?_
                  refine qm_q (i := 11) (l := [.o 10]) rfl rfl rfl rfl (by kernel_rfl) rfl (fun He => PV.rq (pv_as (.n rfl) rfl rfl (fun _ => rfl))) ?_
                  refine qm_n (by kernel_rfl) (by kernel_rfl) (by kernel_rfl) (by kernel_rfl) (.c 4 rfl .n) ?_
                  refine r_retv hF rfl (.c (.t rfl) .n) ?_ ?_
                  · first | exact Ent.rfl | (repeat (first | exact Ent.rfl | refine Ent.c (SelB.ent) ?_ | refine Ent.c (SelS.ent) ?_ | refine Ent.cN ?_ | refine Ent.c (SelX.ent) ?_ | refine Ent.dropR ?_))
                  · first | rfl | exact bool_eq (by first | simp_all; done | (have := List.eq_nil_of_length_eq_zero h0; subst this; simp [takeL]))
            · skip
              refine r_skip ?_
              refine r_end ?_
              refine r_seq ?_
              refine r_region ?_
              refine p_as rfl rfl ?_
              refine o_keep (.c 4 rfl .n) ?_
              refine r_retv hF rfl (.c (.t rfl) .n) ?_ ?_
              · first | exact Ent.rfl | (repeat (first | exact Ent.rfl | refine Ent.c (SelB.ent) ?_ | refine Ent.c (SelS.ent) ?_ | refine Ent.cN ?_ | refine Ent.c (SelX.ent) ?_ | refine Ent.dropR ?_))
              · first | rfl | exact bool_eq (by first | simp_all; done | (have := List.eq_nil_of_length_eq_zero h0; subst this; simp [takeL]))

theorem law_PostKeeps (M : Amb) (H : List HP) (lv : Value) (ls : List PStep) (hl : Rd M [] lv 8 (ls.map rPS)) : FnV Try.prog M H 4 [lv] (.bool true) := by
  refine fn_intro Try.func4 rfl Try.ntmps4 rfl fun F hF => ?_
  refine r_seq ?_
  refine r_region ?_
  refine p_as rfl rfl ?_
  refine o_keep (.c 0 rfl (.c 2 rfl .n)) ?_
  refine r_seq ?_
  refine r_seq ?_
  refine r_region ?_
  refine p_callv cf_14 (.n) rfl (law_postBegun _ _) ?_
  refine p_not rfl rfl ?_
  refine o_keep (.c 0 rfl (.c 2 rfl (.c 15 rfl .n))) ?_
  refine r_cond _ rfl (fun h1 => ?_) (fun h1 => ?_)
  · simp at h1
  · skip
    refine r_skip ?_
    refine r_seq ?_
    refine r_seq ?_
    refine r_region ?_
    refine p_mv rfl rfl ?_
    refine l_op (x_p (pv_lens hl.len ⟨_, Try.underlying22⟩ (.n rfl) rfl rfl rfl rfl (fun _ => rfl)) rfl rfl ?_)
    refine p_gtr rfl rfl rfl ?_
    refine o_keep (.c 0 rfl (.c 2 rfl (.c 18 rfl .n))) ?_
    refine r_cond _ rfl (fun h2 => ?_) (fun h2 => ?_)
    · skip
      refine r_seq ?_
      refine r_region ?_
      refine p_as rfl rfl ?_
      refine o_keep (.c 0 rfl (.c 2 rfl .n)) ?_
      refine r_retv hF rfl (.c (.t rfl) .n) ?_ ?_
      · first | exact Ent.rfl | (repeat (first | exact Ent.rfl | refine Ent.c (SelB.ent) ?_ | refine Ent.c (SelS.ent) ?_ | refine Ent.cN ?_ | refine Ent.c (SelX.ent) ?_ | refine Ent.dropR ?_))
      · rfl
    · skip
      have hL := of_decide_eq_false h2
      refine r_skip ?_
      refine r_seq ?_
      refine r_region ?_
      refine p_calle cf_15 (.n) rfl (post_New _) fun b3 => ?_
      refine o_cat ?_
      refine p_as rfl rfl ?_
      refine o_keep (.c 0 rfl (.c 2 rfl (.c 3 rfl .n))) ?_
      refine r_seq ?_
      refine r_region ?_
      refine p_as rfl rfl ?_
      refine o_keep (.c 0 rfl (.c 2 rfl (.c 3 rfl (.c 4 rfl .n)))) ?_
      refine r_seq ?_
      refine r_seq ?_
      refine r_region ?_
      refine p_as rfl rfl ?_
      refine o_keep (.c 0 rfl (.c 2 rfl (.c 3 rfl (.c 4 rfl (.c 5 rfl .n))))) ?_
      refine r_block ?_
      refine r_loop_4 (fun (i : Nat) (l : List Mail) (lf : Value) (k : List Mail) => [(5, true, .int .i64 (i : Int)), (4, true, lf)]) (.c 0 rfl (.c 2 rfl (.c 3 rfl .n))) (fun (i : Nat) (l : List Mail) (lf : Value) (k : List Mail) => postP b3 l :: sl lf 31 6 (k.map rM) :: H) (fun (i : Nat) (l : List Mail) (lf : Value) (k : List Mail) => i ≤ ls.length ∧ l.length ≤ 40 ∧ l.Perm k) (fun (i : Nat) (l : List Mail) (lf : Value) (k : List Mail) => ls.length - i) (0) ([]) (.slice Option.none 0 0) ([]) ?_ (.c 5 rfl (.c 4 rfl .n)) ?_ (fun i l lf k hI => ?_)
      · exact ⟨Nat.zero_le _, by simp, .nil⟩
      · first | exact Ent.rfl | (repeat (first | exact Ent.rfl | refine Ent.c (SelB.ent) ?_ | refine Ent.c (SelS.ent) ?_ | refine Ent.cN ?_ | refine Ent.c (SelX.ent) ?_ | refine Ent.dropR ?_))
      · skip
        obtain ⟨hil, hl2, hP⟩ := hI
        have hPl := hP.length_eq
        refine r_seq ?_
        refine r_seq ?_
        refine r_region ?_
        refine p_mv rfl rfl ?_
        refine p_mv rfl rfl ?_
        refine l_op (x_p (pv_lens hl.len ⟨_, Try.underlying22⟩ (.n rfl) rfl rfl rfl rfl (fun _ => rfl)) rfl rfl ?_)
        refine p_lss rfl rfl rfl ?_
        refine o_keep (.c 0 rfl (.c 2 rfl (.c 3 rfl (.c 4 rfl (.c 5 rfl (.c 23 rfl .n)))))) ?_
        refine r_cond _ rfl (fun h3 => ?_) (fun h3 => ?_)
        · skip
          have hi : i < ls.length := by have := of_decide_eq_true h3; omega
          obtain ⟨s, hs⟩ := getlt hi
          refine r_skip ?_
          refine r_seq ?_
          refine r_block ?_
          refine r_seq ?_
          refine r_region ?_
          refine p_mv rfl rfl ?_
          refine p_mv rfl rfl ?_
          refine p_idx Try.underlying22 (.ofA ta_33) hl rfl (mapget hs) rfl rfl rfl ?_
          refine p_ldats 0 ta_33 (Rd.ent hl (by repeat (first | exact Ent.rfl | exact Ent.one Ent.h | exact Ent.one (SelS.ent) | exact Ent.nil | refine Ent.dropR ?_ | refine Ent.tr Ent.skip ?_))) (mapget hs) rfl rfl (.s (.s (.s (.s (.s (.s (.s (.s .z)))))))) rfl ?_
          refine p_alloc zr_33 rfl fun b6 => ?_
          refine p_store (.ofA ta_33) rfl rfl rfl rfl rfl (by repeat constructor) ?_
          refine o_keep (.c 0 rfl (.c 2 rfl (.c 3 rfl (.c 4 rfl (.c 5 rfl (.c 6 rfl .n)))))) ?_
          refine r_seq ?_
          refine r_rd lf fun hr => ?_
          refine r_region ?_
          refine p_mv rfl rfl ?_
          refine p_callv cf_22 (.c rfl .n) rfl ((post_Len _ _ l).q) ?_
          refine p_as rfl rfl ?_
          refine o_keep (.c 0 rfl (.c 2 rfl (.c 3 rfl (.c 4 rfl (.c 5 rfl (.c 6 rfl (.c 7 rfl .n))))))) ?_
          refine r_seq ?_
          refine r_seq ?_
          refine r_region ?_
          refine p_fa fa_33_0 rfl rfl ?_
          refine p_ldc tc_3 rfl (by rfl) rfl ?_
          refine o_keep (.c 0 rfl (.c 2 rfl (.c 3 rfl (.c 4 rfl (.c 5 rfl (.c 6 rfl (.c 7 rfl (.c 33 rfl .n)))))))) ?_
          refine r_cut_3 (fun (l1 : List Mail) (lf1 : Value) (k1 : List Mail) => [(4, true, lf1)]) (.c 0 rfl (.c 2 rfl (.c 3 rfl (.c 5 rfl .n)))) (fun (l1 : List Mail) (lf1 : Value) (k1 : List Mail) => postP b3 l1 :: sl lf1 31 6 (k1.map rM) :: H) (fun (l1 : List Mail) (lf1 : Value) (k1 : List Mail) => l1.length ≤ 40 ∧ l1.Perm k1) ?_ (fun l1 lf1 k1 hI => ?_)
          · skip
            refine r_block ?_
            refine r_seq ?_
            refine r_region ?_
            refine p_eql rfl rfl rfl ?_
            refine p_as rfl rfl ?_
            refine o_keep (.c 0 rfl (.c 2 rfl (.c 3 rfl (.c 4 rfl (.c 5 rfl (.c 6 rfl (.c 7 rfl (.c 33 rfl (.c 34 rfl .n))))))))) ?_
            refine r_cond _ rfl (fun h4 => ?_) (fun h4 => ?_)
            · skip
              refine r_seq ?_
              refine r_region ?_
              refine p_mv rfl rfl ?_
              refine p_fa fa_33_2 rfl rfl ?_
              refine p_lda ta_31 rfl (by exact (.s (.s (.s (.s (.s (.s .z))))))) rfl ?_
              refine p_callc cf_16 (.c rfl (.c rfl .n)) rfl (post_Send _ _ l (by omega) s.m) ?_
              refine o_keep (.c 0 rfl (.c 2 rfl (.c 3 rfl (.c 4 rfl (.c 5 rfl (.c 6 rfl (.c 39 rfl .n))))))) ?_
              refine r_cond _ rfl (fun h5 => ?_) (fun h5 => ?_)
              · skip
                have h40 := of_decide_eq_true h5
                have e1 : sendL l s.m = l ++ [s.m] := by unfold sendL; rw [if_pos h40]
                refine r_region ?_
                refine p_mv rfl rfl ?_
                refine p_fa fa_33_2 rfl rfl ?_
                refine p_lda ta_31 rfl (by exact (.s (.s (.s (.s (.s (.s .z))))))) rfl ?_
                refine p_bslice1 Try.underlying26 (.ofA ta_31) zr_31 rfl rfl rfl rfl rfl rfl rfl fun b43 => ?_
                refine p_append Try.underlying26 el_31 rfl rfl rfl rfl rfl (Rd.blit rfl rfl) (by simp; omega) fun v44 => ?_
                refine o_rd v44 fun hr44 => ?_
                refine p_as rfl rfl ?_
                refine o_keep (.c 0 rfl (.c 2 rfl (.c 3 rfl (.c 4 rfl (.c 5 rfl .n))))) ?_
                refine r_end ?_
                refine r_join_3 (sendL l s.m) (_) (k ++ [s.m]) ?_ (Keep.app (.c 4 rfl .n) (.c 0 rfl (.c 2 rfl (.c 3 rfl (.c 5 rfl .n))))) ?_
                · exact ⟨sendL_le hl2, by rw [e1]; exact hP.append_right _⟩
                · rw [List.map_append]; first | exact Ent.rfl | (repeat (first | exact Ent.rfl | refine Ent.c (SelB.ent) ?_ | refine Ent.c (SelS.ent) ?_ | refine Ent.cN ?_ | refine Ent.c (SelX.ent) ?_ | refine Ent.dropR ?_))
              · skip
                have h40 := of_decide_eq_false h5
                have e1 : sendL l s.m = l := by unfold sendL; rw [if_neg h40]
                refine r_skip ?_
                refine r_end ?_
                refine r_join_3 (sendL l s.m) (lf) (k) ?_ (Keep.app (.c 4 rfl .n) (.c 0 rfl (.c 2 rfl (.c 3 rfl (.c 5 rfl .n))))) ?_
                · exact ⟨sendL_le hl2, by rw [e1]; exact hP⟩
                · first | exact Ent.rfl | (repeat (first | exact Ent.rfl | refine Ent.c (SelB.ent) ?_ | refine Ent.c (SelS.ent) ?_ | refine Ent.cN ?_ | refine Ent.c (SelX.ent) ?_ | refine Ent.dropR ?_))
            · skip
              refine r_seq ?_
              refine r_region ?_
              refine p_eql rfl rfl rfl ?_
              refine p_as rfl rfl ?_
              refine o_keep (.c 0 rfl (.c 2 rfl (.c 3 rfl (.c 4 rfl (.c 5 rfl (.c 6 rfl (.c 7 rfl (.c 33 rfl (.c 45 rfl .n))))))))) ?_
              refine r_cond _ rfl (fun h6 => ?_) (fun h6 => ?_)
              · skip
                refine r_seq ?_
                refine r_region ?_
                refine p_mv rfl rfl ?_
                refine p_fa fa_33_1 rfl rfl ?_
                refine p_ldc tc_3 rfl (by rfl) rfl ?_
                refine p_callc cf_18 (.c rfl (.c rfl .n)) rfl (post_Take _ _ l (by omega) s.n) ?_
                refine p_mv rfl rfl ?_
                refine p_ext rfl rfl rfl ?_
                refine p_ext rfl rfl rfl ?_
                refine p_alloc zr_31 rfl fun b8 => ?_
                refine p_store (.ofA ta_31) rfl rfl rfl rfl rfl (by repeat constructor) ?_
                refine p_as rfl rfl ?_
                refine o_keep (.c 0 rfl (.c 2 rfl (.c 3 rfl (.c 4 rfl (.c 5 rfl (.c 7 rfl (.c 8 rfl (.c 9 rfl .n)))))))) ?_
                refine r_seq ?_
                refine r_seq ?_
                refine r_region ?_
                refine p_mv rfl rfl ?_
                refine p_not rfl rfl ?_
                refine o_keep (.c 0 rfl (.c 2 rfl (.c 3 rfl (.c 4 rfl (.c 5 rfl (.c 7 rfl (.c 8 rfl (.c 55 rfl .n)))))))) ?_
                refine r_cond _ rfl (fun h7 => ?_) (fun h7 => ?_)
                · skip
                  have h0 : l.length = 0 := by rw [takeM_isSome] at h7; simp at h7; simp [h7]
                  obtain ⟨e1, e2⟩ := take_none (n := s.n) h0
                  refine r_seq ?_
                  refine r_seq ?_
                  refine r_region ?_
                  refine p_mv rfl rfl ?_
                  refine p_neq rfl rfl rfl ?_
                  refine o_keep (.c 0 rfl (.c 2 rfl (.c 3 rfl (.c 4 rfl (.c 5 rfl (.c 7 rfl (.c 8 rfl (.c 57 rfl .n)))))))) ?_
                  refine r_cond _ rfl (fun h8 => ?_) (fun h8 => ?_)
                  · exfalso; rw [h0] at h8; simp at h8
                  · skip
                    refine r_skip ?_
                    refine r_exit rfl ?_
                    refine r_join_3 (takeL l s.n) (lf) (k) ?_ (Keep.app (.c 4 rfl .n) (.c 0 rfl (.c 2 rfl (.c 3 rfl (.c 5 rfl .n))))) ?_
                    · exact ⟨takeL_le hl2, by rw [e2]; exact hP⟩
                    · first | exact Ent.rfl | (repeat (first | exact Ent.rfl | refine Ent.c (SelB.ent) ?_ | refine Ent.c (SelS.ent) ?_ | refine Ent.cN ?_ | refine Ent.c (SelX.ent) ?_ | refine Ent.dropR ?_))
                · skip
                  have h0 : 0 < l.length := by rw [takeM_isSome] at h7; simpa using h7
                  obtain ⟨m, hm⟩ := takeM_some (l := l) s.n h0
                  refine r_skip ?_
                  refine r_seq ?_
                  refine r_region ?_
                  refine p_as rfl rfl ?_
                  refine o_keep (.c 0 rfl (.c 2 rfl (.c 3 rfl (.c 4 rfl (.c 5 rfl (.c 7 rfl (.c 8 rfl (.c 10 rfl .n)))))))) ?_
                  refine r_seq ?_
                  refine r_seq ?_
                  refine r_region ?_
                  refine p_as rfl rfl ?_
                  refine o_keep (.c 0 rfl (.c 2 rfl (.c 3 rfl (.c 4 rfl (.c 5 rfl (.c 7 rfl (.c 8 rfl (.c 10 rfl (.c 11 rfl .n))))))))) ?_
                  refine r_block ?_
                  refine r_loop_2 (fun (j : Nat) (t : Int) => [(11, true, .int .i64 (j : Int)), (10, true, .int .i64 t)]) (.c 0 rfl (.c 2 rfl (.c 3 rfl (.c 4 rfl (.c 5 rfl (.c 7 rfl (.c 8 rfl .n))))))) (fun (j : Nat) (t : Int) => postP b3 (takeL l s.n) :: blk b8 (rM ((takeM l s.n).getD .z)) 31 :: sl lf 31 6 (k.map rM) :: H) (fun (j : Nat) (t : Int) => j ≤ k.length ∧ KeepAt k m j t) (fun (j : Nat) (t : Int) => k.length - j) (0) (-1) ?_ (.c 11 rfl (.c 10 rfl .n)) ?_ (fun j t hI => ?_)
                  · exact ⟨Nat.zero_le _, .inl ⟨rfl, by simp⟩⟩
                  · first | exact Ent.rfl | (repeat (first | exact Ent.rfl | refine Ent.c (SelB.ent) ?_ | refine Ent.c (SelS.ent) ?_ | refine Ent.cN ?_ | refine Ent.c (SelX.ent) ?_ | refine Ent.dropR ?_))
                  · skip
                    obtain ⟨hjk, hJ⟩ := hI
                    refine r_seq ?_
                    refine r_seq ?_
                    refine r_region ?_
                    refine p_mv rfl rfl ?_
                    refine p_mv rfl rfl ?_
                    refine l_op (x_p (pv_lens (Rd.len hr) ⟨_, Try.underlying26⟩ (.n rfl) rfl rfl rfl rfl (fun _ => rfl)) rfl rfl ?_)
                    refine p_lss rfl rfl rfl ?_
                    refine o_keep (.c 0 rfl (.c 2 rfl (.c 3 rfl (.c 4 rfl (.c 5 rfl (.c 7 rfl (.c 8 rfl (.c 10 rfl (.c 11 rfl (.c 61 rfl .n)))))))))) ?_
                    refine r_cond _ rfl (fun h9 => ?_) (fun h9 => ?_)
                    · skip
                      have hj : j < k.length := by have := of_decide_eq_true h9; omega
                      obtain ⟨y, hy⟩ := getlt hj
                      refine r_skip ?_
                      refine r_seq ?_
                      refine r_block ?_
                      refine r_seq ?_
                      refine r_plan _ [] mo (.c 0 rfl (.c 2 rfl (.c 3 rfl (.c 4 rfl (.c 5 rfl (.c 7 rfl (.c 8 rfl (.c 10 rfl (.c 11 rfl .n))))))))) Ent.rfl ?_
                      refine qm_q (i := 0) (l := [.k 4]) rfl rfl rfl rfl (by kernel_rfl) rfl (fun He => PV.rq (pv_mv (.n rfl) rfl rfl (fun _ => rfl))) ?_
                      refine qm_q (i := 1) (l := [.k 11]) rfl rfl rfl rfl (by kernel_rfl) rfl (fun He => PV.rq (pv_mv (.n rfl) rfl rfl (fun _ => rfl))) ?_
                      refine qm_q (i := 2) (l := [.o 0, .o 1]) rfl rfl rfl rfl (by kernel_rfl) rfl (fun He => PV.rq (pv_idx Try.underlying26 (.ofA ta_31) hr (fun hg => ⟨rfl, (mapget hy)⟩) (.n rfl) rfl rfl rfl (fun _ => ⟨rfl, rfl⟩))) ?_
                      refine qm_q (i := 3) (l := [.o 2]) rfl rfl rfl rfl (by kernel_rfl) rfl (fun He => RV.rq (rv_ldats (j := 0) ta_31 (Rd.ent hr (by repeat (first | exact Ent.rfl | exact Ent.one Ent.h | exact Ent.one (SelS.ent) | exact Ent.nil | refine Ent.dropR ?_ | refine Ent.tr Ent.skip ?_))) (fun hg => (mapget hy)) (.n rfl) rfl rfl (fun _ => rfl) rfl (.s (.s (.s (.s (.s (.s .z)))))))) ?_
                      refine qm_q (i := 4) (l := [.k 8]) rfl rfl rfl rfl (by kernel_rfl) rfl (fun He => RV.rq (q_lda ta_31 (.n rfl) rfl rfl (fun _ => rfl) (by exact (.s (.s (.s (.s (.s (.s .z))))))))) ?_
                      refine qm_q (i := 5) (l := [.o 3, .o 4]) rfl rfl rfl rfl (by kernel_rfl) rfl (fun He => PV.rq (pv_aeq (eq_Mail) (.n rfl) rfl rfl rfl (fun _ => ⟨rfl, rfl⟩))) ?_
                      refine qm_n (by kernel_rfl) (by kernel_rfl) (by kernel_rfl) (by kernel_rfl) (.c 0 rfl (.c 2 rfl (.c 3 rfl (.c 4 rfl (.c 5 rfl (.c 7 rfl (.c 8 rfl (.c 10 rfl (.c 11 rfl (.c 69 rfl .n)))))))))) ?_
                      refine r_cond _ rfl (fun h10 => ?_) (fun h10 => ?_)
                      · skip
                        have hym : y = m := by simpa [hm] using h10
                        refine r_region ?_
                        refine p_mv rfl rfl ?_
                        refine p_as rfl rfl ?_
                        refine o_keep (.c 0 rfl (.c 2 rfl (.c 3 rfl (.c 4 rfl (.c 5 rfl (.c 7 rfl (.c 8 rfl (.c 10 rfl (.c 11 rfl .n))))))))) ?_
                        refine r_end ?_
                        refine r_region ?_
                        refine p_mv rfl rfl ?_
                        refine p_add rfl rfl (by first | omega | exact u64_ne (by omega) (by omega)) rfl ?_
                        refine p_as rfl rfl ?_
                        refine o_keep (.c 0 rfl (.c 2 rfl (.c 3 rfl (.c 4 rfl (.c 5 rfl (.c 7 rfl (.c 8 rfl (.c 10 rfl (.c 11 rfl .n))))))))) ?_
                        refine r_back_2 (j + 1) ((j : Int)) ?_ ?_ (Keep.app (.c 11 rfl (.c 10 rfl .n)) (.c 0 rfl (.c 2 rfl (.c 3 rfl (.c 4 rfl (.c 5 rfl (.c 7 rfl (.c 8 rfl .n)))))))) ?_
                        · exact ⟨by omega, .inr ⟨j, rfl, by rw [← hym]; exact hy⟩⟩
                        · omega
                        · first | exact Ent.rfl | (repeat (first | exact Ent.rfl | refine Ent.c (SelB.ent) ?_ | refine Ent.c (SelS.ent) ?_ | refine Ent.cN ?_ | refine Ent.c (SelX.ent) ?_ | refine Ent.dropR ?_))
                      · skip
                        have hym : y ≠ m := by simpa [hm] using h10
                        refine r_skip ?_
                        refine r_end ?_
                        refine r_region ?_
                        refine p_mv rfl rfl ?_
                        refine p_add rfl rfl (by first | omega | exact u64_ne (by omega) (by omega)) rfl ?_
                        refine p_as rfl rfl ?_
                        refine o_keep (.c 0 rfl (.c 2 rfl (.c 3 rfl (.c 4 rfl (.c 5 rfl (.c 7 rfl (.c 8 rfl (.c 10 rfl (.c 11 rfl .n))))))))) ?_
                        refine r_back_2 (j + 1) (t) ?_ ?_ (Keep.app (.c 11 rfl (.c 10 rfl .n)) (.c 0 rfl (.c 2 rfl (.c 3 rfl (.c 4 rfl (.c 5 rfl (.c 7 rfl (.c 8 rfl .n)))))))) ?_
                        · exact ⟨by omega, keep_next hJ hy hym⟩
                        · omega
                        · first | exact Ent.rfl | (repeat (first | exact Ent.rfl | refine Ent.c (SelB.ent) ?_ | refine Ent.c (SelS.ent) ?_ | refine Ent.cN ?_ | refine Ent.c (SelX.ent) ?_ | refine Ent.dropR ?_))
                    · skip
                      have hj : k.length ≤ j := by have := of_decide_eq_false h9; omega
                      obtain ⟨a, rfl, ha⟩ := keep_found hP hm hj hJ
                      refine r_exit rfl ?_
                      refine r_seq ?_
                      refine r_seq ?_
                      refine r_region ?_
                      refine p_mv rfl rfl ?_
                      refine p_lss rfl rfl rfl ?_
                      refine p_mv rfl rfl ?_
                      refine l_op (x_p (pv_mv (.s rfl rfl rfl) rfl rfl (by first | exact fun _ => rfl | exact id | exact fun h => (Bool.and_eq_true_iff.1 h).1 | simp_all)) rfl rfl ?_)
                      refine l_op (x_q (rq_call cf_22 (.s rfl rfl rfl) rfl (.c rfl (by first | exact fun _ => rfl | exact id | exact fun h => (Bool.and_eq_true_iff.1 h).1 | simp_all) .n) (fun hg => (post_Len _ _ (takeL l s.n)).q)) rfl rfl ?_)
                      refine l_op (x_p (pv_mv (.s rfl rfl rfl) rfl rfl (by first | exact fun _ => rfl | exact id | exact fun h => (Bool.and_eq_true_iff.1 h).1 | simp_all)) rfl rfl ?_)
                      refine l_op (x_p (pv_sub (by intro hg; simp at hg; first | omega | exact u64_ne (by omega) (by omega)) (.s rfl rfl rfl) rfl rfl rfl (by refine fun h => ⟨?_, ?_⟩ <;> first | rfl | exact h | exact (Bool.and_eq_true_iff.1 h).1 | simp_all)) rfl rfl ?_)
                      refine l_op (x_p (pv_neq (.s rfl rfl rfl) rfl rfl rfl (by refine fun h => ⟨?_, ?_⟩ <;> first | rfl | exact h | exact (Bool.and_eq_true_iff.1 h).1 | simp_all)) rfl rfl ?_)
                      refine l_op (x_p (pv_or (.n rfl) rfl rfl rfl (fun _ => ⟨rfl, fun hc => by first | rfl | (rw [hc]; rfl) | simp_all⟩)) rfl rfl ?_)
                      refine o_keep (.c 0 rfl (.c 2 rfl (.c 3 rfl (.c 4 rfl (.c 5 rfl (.c 10 rfl (.c 79 rfl .n))))))) ?_
                      refine r_cond _ rfl (fun h11 => ?_) (fun h11 => ?_)
                      · exfalso; have := takeL_len (n := s.n) h0; simp at h11; omega
                      · skip
                        have hal := (List.getElem?_eq_some_iff.1 ha).1
                        refine r_skip ?_
                        refine r_seq ?_
                        refine r_region ?_
                        refine p_as rfl rfl ?_
                        refine o_keep (.c 0 rfl (.c 2 rfl (.c 3 rfl (.c 4 rfl (.c 5 rfl (.c 10 rfl (.c 12 rfl .n))))))) ?_
                        refine r_plan (_) ([sl (.slice Option.none 0 0) 31 6 []]) mo (.c 0 rfl (.c 2 rfl (.c 3 rfl (.c 4 rfl (.c 5 rfl (.c 10 rfl (.c 12 rfl .n))))))) (Ent.slN) ?_
                        refine qm_q (i := 0) (l := [.k 12]) rfl rfl rfl rfl (by kernel_rfl) rfl (fun He => PV.rq (pv_mv (.n rfl) rfl rfl (fun _ => rfl))) ?_
                        refine qm_q (i := 1) (l := [.k 4]) rfl rfl rfl rfl (by kernel_rfl) rfl (fun He => PV.rq (pv_mv (.n rfl) rfl rfl (fun _ => rfl))) ?_
                        refine qm_q (i := 2) (l := [.k 10]) rfl rfl rfl rfl (by kernel_rfl) rfl (fun He => PV.rq (pv_mv (.n rfl) rfl rfl (fun _ => rfl))) ?_
                        refine qm_q (i := 3) (l := [.o 1, .o 2]) rfl rfl rfl rfl (by kernel_rfl) rfl (fun He => PV.rq (pv_slc (l := 0) (h := a) Try.underlying26 (.ofA ta_31) hr (Nat.zero_le _) (by rw [List.length_map]; omega) rfl rfl rfl (.inl ⟨rfl, rfl, rfl⟩) (.inr ⟨_, _, rfl, rfl, rfl⟩))) ?_
                        refine qm_q (i := 5) (l := [.k 4]) rfl rfl rfl rfl (by kernel_rfl) rfl (fun He => PV.rq (pv_mv (.n rfl) rfl rfl (fun _ => rfl))) ?_
                        refine qm_q (i := 6) (l := [.k 10]) rfl rfl rfl rfl (by kernel_rfl) rfl (fun He => PV.rq (pv_mv (.n rfl) rfl rfl (fun _ => rfl))) ?_
                        refine qm_q (i := 7) (l := [.o 6]) rfl rfl rfl rfl (by kernel_rfl) rfl (fun He => PV.rq (pv_add (fun _ => by first | omega | exact u64_ne (by omega) (by omega)) (.n rfl) rfl rfl rfl (fun _ => ⟨rfl, rfl⟩))) ?_
                        refine qm_q (i := 8) (l := [.o 5, .o 7]) rfl rfl rfl rfl (by kernel_rfl) rfl (fun He => PV.rq (pv_slc (l := a + 1) (h := (k.map rM).length) Try.underlying26 (.ofA ta_31) hr (by rw [List.length_map]; omega) (Nat.le_refl _) rfl rfl rfl (.inr ⟨_, _, rfl, rfl, rfl⟩) (.inl ⟨rfl, rfl, rfl⟩))) ?_
                        refine qa_append Try.underlying26 el_31 rfl rfl (i := 4) [.o 0, .o 3] (by kernel_rfl) (by kernel_rfl) rfl rfl rfl rfl (by kernel_rfl) (by kernel_rfl) ⟨_, .n rfl, rfl⟩ rfl rfl rfl (Rd.ent (hr.resl (Nat.zero_le _) (show a ≤ (k.map rM).length by rw [List.length_map]; omega)) (Ent.one SelS.ent)) (by simp; omega) fun v84 => ?_
                        refine qm_rd v84 fun hr84 => ?_
                        refine qa_append Try.underlying26 el_31 rfl rfl (i := 9) [.o 4, .o 8] (by kernel_rfl) (by kernel_rfl) rfl rfl rfl rfl (by kernel_rfl) (by kernel_rfl) ⟨_, .n rfl, rfl⟩ rfl rfl rfl (Rd.ent (hr.resl (show a + 1 ≤ (k.map rM).length by rw [List.length_map]; omega) (Nat.le_refl _)) (Ent.one SelS.ent)) (by simp; omega) fun v89 => ?_
                        refine qm_rd v89 fun hr89 => ?_
                        refine qm_q (i := 10) (l := [.o 9]) rfl rfl rfl rfl (by kernel_rfl) rfl (fun He => PV.rq (pv_as (.n rfl) rfl rfl (fun _ => rfl))) ?_
                        refine qm_n (by kernel_rfl) (by kernel_rfl) (by kernel_rfl) (by kernel_rfl) (.c 0 rfl (.c 2 rfl (.c 3 rfl (.c 4 rfl (.c 5 rfl .n))))) ?_
                        refine r_end ?_
                        refine r_join_3 (takeL l s.n) (_) (k.take a ++ k.drop (a + 1)) ?_ (Keep.app (.c 4 rfl .n) (.c 0 rfl (.c 2 rfl (.c 3 rfl (.c 5 rfl .n))))) ?_
                        · exact ⟨takeL_le hl2, perm_take hP hm ha⟩
                        · simp only [List.map_append, List.map_take, List.map_drop, List.take_length, List.drop_zero, List.nil_append]; first | exact Ent.rfl | (repeat (first | exact Ent.rfl | refine Ent.c (SelB.ent) ?_ | refine Ent.c (SelS.ent) ?_ | refine Ent.cN ?_ | refine Ent.c (SelX.ent) ?_ | refine Ent.dropR ?_))
              · skip
                refine r_seq ?_
                refine r_region ?_
                refine p_eql rfl rfl rfl ?_
                refine p_as rfl rfl ?_
                refine o_keep (.c 0 rfl (.c 2 rfl (.c 3 rfl (.c 4 rfl (.c 5 rfl (.c 6 rfl (.c 90 rfl .n))))))) ?_
                refine r_cond _ rfl (fun h12 => ?_) (fun h12 => ?_)
                · skip
                  refine r_seq ?_
                  refine r_region ?_
                  refine p_mv rfl rfl ?_
                  refine p_calle cf_24 (.c rfl .n) rfl (post_List _ _ l (by omega)) fun qv => ?_
                  refine o_cat ?_
                  refine o_rd qv fun hq => ?_
                  refine p_as rfl rfl ?_
                  refine o_keep (.c 0 rfl (.c 2 rfl (.c 3 rfl (.c 4 rfl (.c 5 rfl (.c 6 rfl (.c 13 rfl .n))))))) ?_
                  refine r_seq ?_
                  refine r_region ?_
                  refine p_mv rfl rfl ?_
                  refine p_fa fa_33_1 rfl rfl ?_
                  refine p_ldc tc_3 rfl (by rfl) rfl ?_
                  refine p_callc cf_20 (.c rfl (.c rfl .n)) rfl (post_Double _ _ l (by omega) s.n) ?_
                  refine o_keep (.c 0 rfl (.c 2 rfl (.c 3 rfl (.c 4 rfl (.c 5 rfl (.c 6 rfl (.c 13 rfl (.c 97 rfl .n)))))))) ?_
                  refine r_cond _ rfl (fun h13 => ?_) (fun h13 => ?_)
                  · skip
                    have hd : 0 < l.length ∧ l.length < 40 := by simpa [dblOk] using h13
                    obtain ⟨m, hm⟩ := takeM_some (l := l) s.n hd.1
                    have e1 : dblL l s.n = l ++ [m] := by simp only [dblL, hm, sendL]; rw [if_pos hd.2]
                    refine r_seq ?_
                    refine r_seq ?_
                    refine r_region ?_
                    refine p_mv rfl rfl ?_
                    refine l_op (x_p (pv_lens (Rd.len hq) ⟨_, Try.underlying26⟩ (.n rfl) rfl rfl rfl rfl (fun _ => rfl)) rfl rfl ?_)
                    refine p_eql rfl rfl rfl ?_
                    refine o_keep (.c 0 rfl (.c 2 rfl (.c 3 rfl (.c 4 rfl (.c 5 rfl (.c 6 rfl (.c 13 rfl (.c 100 rfl .n)))))))) ?_
                    refine r_cond _ rfl (fun h14 => ?_) (fun h14 => ?_)
                    · exfalso; have := of_decide_eq_true h14; omega
                    · skip
                      refine r_skip ?_
                      refine r_region ?_
                      refine p_mv rfl rfl ?_
                      refine p_mv rfl rfl ?_
                      refine p_fa fa_33_1 rfl rfl ?_
                      refine p_ldc tc_3 rfl (by rfl) rfl ?_
                      refine l_op (x_p (pv_conv Try.underlying3 Try.underlying42 (.n rfl) rfl rfl (fun _ => rfl)) rfl rfl ?_)
                      refine p_mv rfl rfl ?_
                      refine l_op (x_p (pv_lens (Rd.len hq) ⟨_, Try.underlying26⟩ (.n rfl) rfl rfl rfl rfl (fun _ => rfl)) rfl rfl ?_)
                      refine l_op (x_p (pv_conv Try.underlying3 Try.underlying42 (.n rfl) rfl rfl (fun _ => rfl)) rfl rfl ?_)
                      refine l_op (x_p (pv_rem (fun _ => by first | omega | exact u64_ne (by omega) (by omega)) (.n rfl) rfl rfl rfl (fun _ => ⟨rfl, rfl⟩)) rfl rfl ?_)
                      refine l_op (x_p (pv_conv Try.underlying42 Try.underlying3 (.n rfl) rfl rfl (fun _ => rfl)) rfl rfl ?_)
                      refine p_idx Try.underlying26 (.ofA ta_31) hq (rnd_eq (by omega) (by omega)) (mapget hm) rfl rfl rfl ?_
                      refine p_ldats 0 ta_31 (Rd.ent hq (by repeat (first | exact Ent.rfl | exact Ent.one Ent.h | exact Ent.one (SelS.ent) | exact Ent.nil | refine Ent.dropR ?_ | refine Ent.tr Ent.skip ?_))) (mapget hm) rfl rfl (.s (.s (.s (.s (.s (.s .z)))))) rfl ?_
                      refine p_bslice1 Try.underlying26 (.ofA ta_31) zr_31 rfl rfl rfl rfl rfl rfl rfl fun b113 => ?_
                      refine p_append Try.underlying26 el_31 rfl rfl rfl rfl rfl (Rd.blit rfl rfl) (by simp; omega) fun v114 => ?_
                      refine o_rd v114 fun hr114 => ?_
                      refine p_as rfl rfl ?_
                      refine o_keep (.c 0 rfl (.c 2 rfl (.c 3 rfl (.c 4 rfl (.c 5 rfl .n))))) ?_
                      refine r_end ?_
                      refine r_join_3 (dblL l s.n) (_) (k ++ [m]) ?_ (Keep.app (.c 4 rfl .n) (.c 0 rfl (.c 2 rfl (.c 3 rfl (.c 5 rfl .n))))) ?_
                      · exact ⟨dblL_le hl2, by rw [e1]; exact hP.append_right _⟩
                      · rw [List.map_append]; first | exact Ent.rfl | (repeat (first | exact Ent.rfl | refine Ent.c (SelB.ent) ?_ | refine Ent.c (SelS.ent) ?_ | refine Ent.cN ?_ | refine Ent.c (SelX.ent) ?_ | refine Ent.dropR ?_))
                  · skip
                    have e1 : dblL l s.n = l := (ord_dbl (sm := s.m) (n := s.n) rfl hl2).1 h13
                    refine r_skip ?_
                    refine r_end ?_
                    refine r_join_3 (dblL l s.n) (lf) (k) ?_ (Keep.app (.c 4 rfl .n) (.c 0 rfl (.c 2 rfl (.c 3 rfl (.c 5 rfl .n))))) ?_
                    · exact ⟨dblL_le hl2, by rw [e1]; exact hP⟩
                    · first | exact Ent.rfl | (repeat (first | exact Ent.rfl | refine Ent.c (SelB.ent) ?_ | refine Ent.c (SelS.ent) ?_ | refine Ent.cN ?_ | refine Ent.c (SelX.ent) ?_ | refine Ent.dropR ?_))
                · skip
                  refine r_skip ?_
                  refine r_end ?_
                  refine r_join_3 (l) (lf) (k) ?_ (Keep.app (.c 4 rfl .n) (.c 0 rfl (.c 2 rfl (.c 3 rfl (.c 5 rfl .n))))) ?_
                  · exact ⟨hl2, hP⟩
                  · first | exact Ent.rfl | (repeat (first | exact Ent.rfl | refine Ent.c (SelB.ent) ?_ | refine Ent.c (SelS.ent) ?_ | refine Ent.cN ?_ | refine Ent.c (SelX.ent) ?_ | refine Ent.dropR ?_))
          have hI1 := hI
          refine r_seq ?_
          refine r_rd lf1 fun hr1 => ?_
          refine r_region ?_
          refine p_mv rfl rfl ?_
          refine p_callv cf_22 (.c rfl .n) rfl ((post_Len _ _ l1).q) ?_
          refine p_mv rfl rfl ?_
          refine l_op (x_p (pv_lens (Rd.len hr1) ⟨_, Try.underlying26⟩ (.n rfl) rfl rfl rfl rfl (fun _ => rfl)) rfl rfl ?_)
          refine p_neq rfl rfl rfl ?_
          refine p_mv rfl rfl ?_
          refine l_op (x_p (pv_mv (.s rfl rfl rfl) rfl rfl (by first | exact fun _ => rfl | exact id | exact fun h => (Bool.and_eq_true_iff.1 h).1 | simp_all)) rfl rfl ?_)
          refine l_op (x_q (rq_call cf_22 (.s rfl rfl rfl) rfl (.c rfl (by first | exact fun _ => rfl | exact id | exact fun h => (Bool.and_eq_true_iff.1 h).1 | simp_all) .n) (fun hg => (post_Len _ _ l1).q)) rfl rfl ?_)
          refine l_op (x_p (pv_gtr (.s rfl rfl rfl) rfl rfl rfl (by refine fun h => ⟨?_, ?_⟩ <;> first | rfl | exact h | exact (Bool.and_eq_true_iff.1 h).1 | simp_all)) rfl rfl ?_)
          refine l_op (x_p (pv_or (.n rfl) rfl rfl rfl (fun _ => ⟨rfl, fun hc => by first | rfl | (rw [hc]; rfl) | simp_all⟩)) rfl rfl ?_)
          refine o_keep (.c 0 rfl (.c 2 rfl (.c 3 rfl (.c 4 rfl (.c 5 rfl (.c 124 rfl .n)))))) ?_
          refine r_cond _ rfl (fun h15 => ?_) (fun h15 => ?_)
          · exfalso; have := hI1.2.length_eq; simp at h15; omega
          · skip
            refine r_skip ?_
            refine r_end ?_
            refine r_region ?_
            refine p_mv rfl rfl ?_
            refine p_add rfl rfl (by first | omega | exact u64_ne (by omega) (by omega)) rfl ?_
            refine p_as rfl rfl ?_
            refine o_keep (.c 0 rfl (.c 2 rfl (.c 3 rfl (.c 4 rfl (.c 5 rfl .n))))) ?_
            refine r_back_4 (i + 1) (l1) (lf1) (k1) ?_ ?_ (Keep.app (.c 5 rfl (.c 4 rfl .n)) (.c 0 rfl (.c 2 rfl (.c 3 rfl .n)))) ?_
            · exact ⟨by omega, hI1⟩
            · omega
            · first | exact Ent.rfl | (repeat (first | exact Ent.rfl | refine Ent.c (SelB.ent) ?_ | refine Ent.c (SelS.ent) ?_ | refine Ent.cN ?_ | refine Ent.c (SelX.ent) ?_ | refine Ent.dropR ?_))
        · skip
          refine r_exit rfl ?_
          refine r_seq ?_
          refine r_region ?_
          refine p_as rfl rfl ?_
          refine o_keep (.c 2 rfl .n) ?_
          refine r_retv hF rfl (.c (.t rfl) .n) ?_ ?_
          · first | exact Ent.rfl | (repeat (first | exact Ent.rfl | refine Ent.c (SelB.ent) ?_ | refine Ent.c (SelS.ent) ?_ | refine Ent.cN ?_ | refine Ent.c (SelX.ent) ?_ | refine Ent.dropR ?_))
          · rfl

end Go.Proofs.Ytmakdilmibjpbaa
