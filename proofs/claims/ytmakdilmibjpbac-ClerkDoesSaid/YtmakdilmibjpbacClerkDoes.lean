/- The walks of ClerkDoes: written by a program of ours (gen.py) over the engine. -/
import Derived.Test.YtmakdilmibjpbacPlain
import Derived.Test.YtmakdilmibjpbacFacts
import Derived.Test.YtmakdilmibjpbacClerkLaws
import Derived.Test.YtmakdilmibjpbacPenA
namespace Go.Proofs.Ytmakdilmibjpbac
open Go Go.RowKit
set_option linter.unusedVariables false
set_option linter.unusedSimpArgs false
set_option maxRecDepth 20000

theorem law_ClerkDoes (M : Amb) (H : List HP) (no : Int) (ws : List Int) (hws : ws.length = 6) (uv : Value) (ls : List Mail) (hu : Rd M [] uv 6 (ls.map rM)) (n : Int) : FnV Try.prog M H 5 [.int .i64 no, .agg (ws.map vI).toArray, uv, .int .i64 n] (.bool true) := by
  refine fn_intro Try.func5 rfl Try.ntmps5 rfl fun F hF => ?_
  refine r_seq ?_
  refine r_region ?_
  refine p_box rfl rfl rfl fun b5 => ?_
  refine p_as rfl rfl ?_
  refine o_keep (.c 0 rfl (.c 2 rfl (.c 3 rfl (.c 5 rfl (.c 8 rfl .n))))) ?_
  refine r_seq ?_
  refine r_seq ?_
  refine r_region ?_
  refine p_callv cf_14 (.n) rfl (law_clerkBegun _ _) ?_
  refine p_not rfl rfl ?_
  refine o_keep (.c 0 rfl (.c 2 rfl (.c 3 rfl (.c 5 rfl (.c 8 rfl (.c 17 rfl .n)))))) ?_
  refine r_cond _ rfl (fun h1 => ?_) (fun h1 => ?_)
  · simp at h1
  · skip
    refine r_skip ?_
    refine r_seq ?_
    refine r_seq ?_
    refine r_region ?_
    refine p_mv rfl rfl ?_
    refine l_op (x_p (pv_lens hu.len ⟨_, Try.underlying24⟩ (.n rfl) rfl rfl rfl rfl (fun _ => rfl)) rfl rfl ?_)
    refine p_gtr rfl rfl rfl ?_
    refine o_keep (.c 0 rfl (.c 2 rfl (.c 3 rfl (.c 5 rfl (.c 8 rfl (.c 20 rfl .n)))))) ?_
    refine r_cond _ rfl (fun h2 => ?_) (fun h2 => ?_)
    · skip
      refine r_seq ?_
      refine r_region ?_
      refine p_as rfl rfl ?_
      refine o_keep (.c 0 rfl (.c 2 rfl (.c 3 rfl (.c 5 rfl (.c 8 rfl .n))))) ?_
      refine r_retv hF rfl (.c (.t rfl) .n) ?_ ?_
      · first | exact Ent.rfl | (repeat (first | exact Ent.rfl | refine Ent.c (SelB.ent) ?_ | refine Ent.c (SelS.ent) ?_ | refine Ent.cN ?_ | refine Ent.c (SelX.ent) ?_ | refine Ent.dropR ?_))
      · first | rfl | exact bool_eq (by simp)
    · skip
      have hL := of_decide_eq_false h2
      refine r_skip ?_
      refine r_seq ?_
      rcases hn : newS no ws with _ | s0
      · skip
        refine r_plan _ [] mo (.c 0 rfl (.c 2 rfl (.c 3 rfl (.c 5 rfl (.c 8 rfl .n))))) Ent.rfl ?_
        refine qm_q (i := 0) (l := [.k 0]) rfl rfl rfl rfl (by kernel_rfl) rfl (fun He => PV.rq (pv_mv (.n rfl) rfl rfl (fun _ => rfl))) ?_
        refine qm_q (i := 1) (l := [.k 5]) rfl rfl rfl rfl (by kernel_rfl) rfl (fun He => RV.rq (q_lda ta_23 (.n rfl) rfl rfl (fun _ => rfl) (by exact (Tk.all (by first | rfl | assumption | (simp only [List.drop_zero, List.length_map]; assumption) | (simp [*]; done)))))) ?_
        refine qm_q (i := 3) (l := [.k 0]) rfl rfl rfl rfl (by kernel_rfl) rfl (fun He => PV.rq (pv_mv (.n rfl) rfl rfl (fun _ => rfl))) ?_
        refine qm_q (i := 4) (l := [.k 5]) rfl rfl rfl rfl (by kernel_rfl) rfl (fun He => RV.rq (q_lda ta_23 (.n rfl) rfl rfl (fun _ => rfl) (by exact (Tk.all (by first | rfl | assumption | (simp only [List.drop_zero, List.length_map]; assumption) | (simp [*]; done)))))) ?_
        refine qm_callc (i := 2) [.o 0, .o 1] (by kernel_rfl) (by kernel_rfl) rfl rfl rfl rfl (by kernel_rfl) (by kernel_rfl) ⟨_, .n rfl, rfl⟩ cf_15 rfl (.c rfl (.c rfl .n)) (clerk_New_none _ no ws hws hn) ?_
        refine qb_callc (i := 5) [.o 3, .o 4] (by kernel_rfl) (by kernel_rfl) rfl rfl rfl rfl (by kernel_rfl) (by kernel_rfl) (by kernel_rfl) ⟨_, .n rfl, rfl⟩ cf_23 rfl (.c rfl (.c rfl .n)) (pen_New_none _ no ws hws hn) ?_
        refine qm_q (i := 6) (l := [.o 2]) rfl rfl rfl rfl (by kernel_rfl) rfl (fun He => PV.rq (pv_as (.n rfl) rfl rfl (fun _ => rfl))) ?_
        refine qm_q (i := 7) (l := [.o 5]) rfl rfl rfl rfl (by kernel_rfl) rfl (fun He => PV.rq (pv_as (.n rfl) rfl rfl (fun _ => rfl))) ?_
        refine qm_n (by kernel_rfl) (by kernel_rfl) (by kernel_rfl) (by kernel_rfl) (.c 2 rfl (.c 3 rfl (.c 8 rfl (.c 9 rfl (.c 10 rfl .n))))) ?_
        refine r_seq ?_
        refine r_seq ?_
        refine r_region ?_
        refine p_mv rfl rfl ?_
        refine l_op (x_p (pv_peqn Try.underlying26 (.n rfl) rfl rfl rfl (fun _ => ⟨rfl, rfl⟩)) rfl rfl ?_)
        refine p_mv rfl rfl ?_
        refine l_op (x_p (pv_mv (.s rfl rfl rfl) rfl rfl (by first | exact fun _ => rfl | exact id | exact fun h => (Bool.and_eq_true_iff.1 h).1 | simp_all)) rfl rfl ?_)
        refine l_op (x_p (pv_peqn Try.underlying56 (.s rfl rfl rfl) rfl rfl rfl (by refine fun h => ⟨?_, ?_⟩ <;> first | rfl | exact h | exact (Bool.and_eq_true_iff.1 h).1 | simp_all)) rfl rfl ?_)
        refine l_op (x_p (pv_or (.n rfl) rfl rfl rfl (fun _ => ⟨rfl, fun hc => by first | rfl | (rw [hc]; rfl) | simp_all⟩)) rfl rfl ?_)
        refine o_keep (.c 2 rfl (.c 3 rfl (.c 8 rfl (.c 9 rfl (.c 10 rfl (.c 32 rfl .n)))))) ?_
        refine r_cond _ rfl (fun h3 => ?_) (fun h3 => ?_)
        · skip
          refine r_seq ?_
          refine r_region ?_
          refine p_mv rfl rfl ?_
          refine l_op (x_p (pv_peqn Try.underlying26 (.n rfl) rfl rfl rfl (fun _ => ⟨rfl, rfl⟩)) rfl rfl ?_)
          refine p_mv rfl rfl ?_
          refine l_op (x_p (pv_mv (.s rfl rfl rfl) rfl rfl (by first | exact fun _ => rfl | exact id | exact fun h => (Bool.and_eq_true_iff.1 h).1 | simp_all)) rfl rfl ?_)
          refine l_op (x_p (pv_peqn Try.underlying56 (.s rfl rfl rfl) rfl rfl rfl (by refine fun h => ⟨?_, ?_⟩ <;> first | rfl | exact h | exact (Bool.and_eq_true_iff.1 h).1 | simp_all)) rfl rfl ?_)
          refine l_op (x_p (pv_and (.n rfl) rfl rfl rfl (fun _ => ⟨rfl, fun hc => by first | rfl | (rw [hc]; rfl) | simp_all⟩)) rfl rfl ?_)
          refine p_as rfl rfl ?_
          refine o_keep (.c 2 rfl (.c 3 rfl (.c 8 rfl (.c 9 rfl (.c 10 rfl .n))))) ?_
          refine r_retv hF rfl (.c (.t rfl) .n) ?_ ?_
          · first | exact Ent.rfl | (repeat (first | exact Ent.rfl | refine Ent.c (SelB.ent) ?_ | refine Ent.c (SelS.ent) ?_ | refine Ent.cN ?_ | refine Ent.c (SelX.ent) ?_ | refine Ent.dropR ?_))
          · first | rfl | exact bool_eq (by simp)
        · simp at h3
      · skip
        refine r_plan _ [] mo (.c 0 rfl (.c 2 rfl (.c 3 rfl (.c 5 rfl (.c 8 rfl .n))))) Ent.rfl ?_
        refine qm_q (i := 0) (l := [.k 0]) rfl rfl rfl rfl (by kernel_rfl) rfl (fun He => PV.rq (pv_mv (.n rfl) rfl rfl (fun _ => rfl))) ?_
        refine qm_q (i := 1) (l := [.k 5]) rfl rfl rfl rfl (by kernel_rfl) rfl (fun He => RV.rq (q_lda ta_23 (.n rfl) rfl rfl (fun _ => rfl) (by exact (Tk.all (by first | rfl | assumption | (simp only [List.drop_zero, List.length_map]; assumption) | (simp [*]; done)))))) ?_
        refine qm_q (i := 3) (l := [.k 0]) rfl rfl rfl rfl (by kernel_rfl) rfl (fun He => PV.rq (pv_mv (.n rfl) rfl rfl (fun _ => rfl))) ?_
        refine qm_q (i := 4) (l := [.k 5]) rfl rfl rfl rfl (by kernel_rfl) rfl (fun He => RV.rq (q_lda ta_23 (.n rfl) rfl rfl (fun _ => rfl) (by exact (Tk.all (by first | rfl | assumption | (simp only [List.drop_zero, List.length_map]; assumption) | (simp [*]; done)))))) ?_
        refine qm_calle (i := 2) [.o 0, .o 1] (by kernel_rfl) (by kernel_rfl) rfl rfl rfl rfl (by kernel_rfl) (by kernel_rfl) ⟨_, .n rfl, rfl⟩ cf_15 rfl (.c rfl (.c rfl .n)) (clerk_New_some _ no ws hws hn) fun b23 => ?_
        refine qm_cat ?_
        refine qb_calle (i := 5) [.o 3, .o 4] (by kernel_rfl) (by kernel_rfl) rfl rfl rfl rfl (by kernel_rfl) (by kernel_rfl) (by kernel_rfl) ⟨_, .n rfl, rfl⟩ cf_23 rfl (.c rfl (.c rfl .n)) (pen_New_some _ no ws hws hn) fun b26 => ?_
        refine qm_cat ?_
        refine qm_q (i := 6) (l := [.o 2]) rfl rfl rfl rfl (by kernel_rfl) rfl (fun He => PV.rq (pv_as (.n rfl) rfl rfl (fun _ => rfl))) ?_
        refine qm_q (i := 7) (l := [.o 5]) rfl rfl rfl rfl (by kernel_rfl) rfl (fun He => PV.rq (pv_as (.n rfl) rfl rfl (fun _ => rfl))) ?_
        refine qm_n (by kernel_rfl) (by kernel_rfl) (by kernel_rfl) (by kernel_rfl) (.c 2 rfl (.c 3 rfl (.c 8 rfl (.c 9 rfl (.c 10 rfl .n))))) ?_
        refine r_seq ?_
        refine r_seq ?_
        refine r_region ?_
        refine p_mv rfl rfl ?_
        refine l_op (x_p (pv_peqn Try.underlying26 (.n rfl) rfl rfl rfl (fun _ => ⟨rfl, rfl⟩)) rfl rfl ?_)
        refine p_mv rfl rfl ?_
        refine l_op (x_p (pv_mv (.s rfl rfl rfl) rfl rfl (by first | exact fun _ => rfl | exact id | exact fun h => (Bool.and_eq_true_iff.1 h).1 | simp_all)) rfl rfl ?_)
        refine l_op (x_p (pv_peqn Try.underlying56 (.s rfl rfl rfl) rfl rfl rfl (by refine fun h => ⟨?_, ?_⟩ <;> first | rfl | exact h | exact (Bool.and_eq_true_iff.1 h).1 | simp_all)) rfl rfl ?_)
        refine l_op (x_p (pv_or (.n rfl) rfl rfl rfl (fun _ => ⟨rfl, fun hc => by first | rfl | (rw [hc]; rfl) | simp_all⟩)) rfl rfl ?_)
        refine o_keep (.c 2 rfl (.c 3 rfl (.c 8 rfl (.c 9 rfl (.c 10 rfl (.c 32 rfl .n)))))) ?_
        refine r_cond _ rfl (fun h4 => ?_) (fun h4 => ?_)
        · simp at h4
        · skip
          refine r_skip ?_
          refine r_seq ?_
          refine r_seq ?_
          refine r_region ?_
          refine p_as rfl rfl ?_
          refine o_keep (.c 2 rfl (.c 3 rfl (.c 8 rfl (.c 9 rfl (.c 10 rfl (.c 11 rfl .n)))))) ?_
          refine r_block ?_
          refine r_loop_2 (fun (i : Nat) (k : KeepS) => [(11, true, .int .i64 (i : Int))]) (.c 2 rfl (.c 3 rfl (.c 8 rfl (.c 9 rfl (.c 10 rfl .n))))) (fun (i : Nat) (k : KeepS) => clerkP b23 k :: penP b26 k :: blk b5 (ws.map vI) 23 :: H) (fun (i : Nat) (k : KeepS) => i ≤ ls.length ∧ KInv k) (fun (i : Nat) (k : KeepS) => ls.length - i) (0) (⟨no, ws, s0, []⟩) ?_ (.c 11 rfl .n) ?_ (fun i k hI => ?_)
          · exact ⟨Nat.zero_le _, (KInv.new (no := no) (ws := ws) (k := ⟨no, ws, s0, []⟩) (by unfold newK; rw [hn]; rfl)).1⟩
          · first | exact Ent.rfl | (repeat (first | exact Ent.rfl | refine Ent.c (SelB.ent) ?_ | refine Ent.c (SelS.ent) ?_ | refine Ent.cN ?_ | refine Ent.c (SelX.ent) ?_ | refine Ent.dropR ?_))
          · skip
            obtain ⟨hil, hK⟩ := hI
            refine r_seq ?_
            refine r_seq ?_
            refine r_region ?_
            refine p_mv rfl rfl ?_
            refine p_mv rfl rfl ?_
            refine l_op (x_p (pv_lens hu.len ⟨_, Try.underlying24⟩ (.n rfl) rfl rfl rfl rfl (fun _ => rfl)) rfl rfl ?_)
            refine p_lss rfl rfl rfl ?_
            refine o_keep (.c 2 rfl (.c 3 rfl (.c 8 rfl (.c 9 rfl (.c 10 rfl (.c 11 rfl (.c 42 rfl .n))))))) ?_
            refine r_cond _ rfl (fun h5 => ?_) (fun h5 => ?_)
            · skip
              obtain ⟨m, hm⟩ := getlt (l := ls) (i := i) (by have := of_decide_eq_true h5; omega)
              have hil2 := (List.getElem?_eq_some_iff.1 hm).1
              refine r_skip ?_
              refine r_seq ?_
              refine r_block ?_
              refine r_seq ?_
              refine r_region ?_
              refine p_mv rfl rfl ?_
              refine p_mv rfl rfl ?_
              refine p_mv rfl rfl ?_
              refine p_idx Try.underlying24 (.ofA ta_31) hu rfl (mapget hm) rfl rfl rfl ?_
              refine p_ldats 0 ta_31 (Rd.ent hu (by repeat (first | exact Ent.rfl | exact Ent.one Ent.h | exact Ent.one (SelS.ent) | exact Ent.nil | exact Ent.left | refine Ent.dropR ?_ | refine Ent.tr Ent.skip ?_))) (mapget hm) rfl rfl (.s (.s (.s (.s (.s (.s .z)))))) rfl ?_
              refine p_callc cf_16 (.c rfl (.c rfl .n)) rfl (clerk_Answer _ b23 k hK m) ?_
              refine p_mv rfl rfl ?_
              refine p_ext rfl rfl rfl ?_
              refine p_ext rfl rfl rfl ?_
              refine p_alloc zr_31 rfl fun b12 => ?_
              refine p_store (.ofA ta_31) rfl rfl rfl (by first | rfl | exact rfl) (by first | rfl | exact (by first | rfl | simp [vI, Value.oneCell'])) (Ins.whole (by first | rfl | (simp only [List.length_map, List.length_cons, List.length_nil]; omega) | (simp [*]; done) | (simp [*]; rfl))) ?_
              refine p_as rfl rfl ?_
              refine o_keep (.c 2 rfl (.c 3 rfl (.c 8 rfl (.c 9 rfl (.c 10 rfl (.c 11 rfl (.c 12 rfl (.c 13 rfl .n)))))))) ?_
              refine r_seq ?_
              refine r_region ?_
              refine p_mv rfl rfl ?_
              refine p_mv rfl rfl ?_
              refine p_mv rfl rfl ?_
              refine p_idx Try.underlying24 (.ofA ta_31) hu rfl (mapget hm) rfl rfl rfl ?_
              refine p_ldats 0 ta_31 (Rd.ent hu (by repeat (first | exact Ent.rfl | exact Ent.one Ent.h | exact Ent.one (SelS.ent) | exact Ent.nil | exact Ent.left | refine Ent.dropR ?_ | refine Ent.tr Ent.skip ?_))) (mapget hm) rfl rfl (.s (.s (.s (.s (.s (.s .z)))))) rfl ?_
              refine p_callc cf_24 (.c rfl (.c rfl .n)) rfl (pen_Answer _ b26 k hK m) ?_
              refine p_mv rfl rfl ?_
              refine p_ext rfl rfl rfl ?_
              refine p_ext rfl rfl rfl ?_
              refine p_alloc zr_31 rfl fun b14 => ?_
              refine p_store (.ofA ta_31) rfl rfl rfl (by first | rfl | exact rfl) (by first | rfl | exact (by first | rfl | simp [vI, Value.oneCell'])) (Ins.whole (by first | rfl | (simp only [List.length_map, List.length_cons, List.length_nil]; omega) | (simp [*]; done) | (simp [*]; rfl))) ?_
              refine p_as rfl rfl ?_
              refine o_keep (.c 2 rfl (.c 3 rfl (.c 8 rfl (.c 9 rfl (.c 10 rfl (.c 11 rfl (.c 12 rfl (.c 13 rfl (.c 14 rfl (.c 15 rfl .n)))))))))) ?_
              refine r_seq ?_
              refine r_seq ?_
              refine r_region ?_
              refine p_lda ta_31 rfl (by exact (Tk.all rfl)) rfl ?_
              refine p_lda ta_31 rfl (by exact (Tk.all rfl)) rfl ?_
              refine l_op (x_p (pv_to (pv_ane eq_Mail (.n rfl) rfl rfl rfl (fun _ => ⟨rfl, rfl⟩)) (show _ = Value.bool false by simp)) rfl rfl ?_)
              refine p_mv rfl rfl ?_
              refine l_op (x_p (pv_mv (.s rfl rfl rfl) rfl rfl (by first | exact fun _ => rfl | exact id | exact fun h => (Bool.and_eq_true_iff.1 h).1 | simp_all)) rfl rfl ?_)
              refine l_op (x_p (pv_mv (.s rfl rfl rfl) rfl rfl (by first | exact fun _ => rfl | exact id | exact fun h => (Bool.and_eq_true_iff.1 h).1 | simp_all)) rfl rfl ?_)
              refine l_op (x_p (pv_bne Try.underlying4 (.s rfl rfl rfl) rfl rfl rfl (by refine fun h => ⟨?_, ?_⟩ <;> first | rfl | exact h | exact (Bool.and_eq_true_iff.1 h).1 | simp_all)) rfl rfl ?_)
              refine l_op (x_p (pv_or (.n rfl) rfl rfl rfl (fun _ => ⟨rfl, fun hc => by first | rfl | (rw [hc]; rfl) | simp_all⟩)) rfl rfl ?_)
              refine o_keep (.c 2 rfl (.c 3 rfl (.c 8 rfl (.c 9 rfl (.c 10 rfl (.c 11 rfl (.c 70 rfl .n))))))) ?_
              refine r_cond _ rfl (fun h6 => ?_) (fun h6 => ?_)
              · simp at h6
              · skip
                refine r_skip ?_
                refine r_seq ?_
                refine r_seq ?_
                have hK1 := hK.ans m
                generalize (ansK k m).1 = k1 at hK1 ⊢
                have hh1 := hK1.sh.holds_le
                have hh2 := hK1.sh.over_le
                have hh3 := hK1.l_le
                refine r_region ?_
                refine p_mv rfl rfl ?_
                refine p_mv rfl rfl ?_
                refine p_eql rfl rfl rfl ?_
                refine o_keep (.c 2 rfl (.c 3 rfl (.c 8 rfl (.c 9 rfl (.c 10 rfl (.c 11 rfl (.c 73 rfl .n))))))) ?_
                refine r_cut_1 (fun (z : Unit) => []) (.c 2 rfl (.c 3 rfl (.c 8 rfl (.c 9 rfl (.c 10 rfl (.c 11 rfl .n)))))) (fun (z : Unit) => clerkP b23 k1 :: penP b26 k1 :: blk b5 (ws.map vI) 23 :: H) (fun (z : Unit) => True) ?_ (fun z hI => ?_)
                · skip
                  refine r_cond _ rfl (fun h7 => ?_) (fun h7 => ?_)
                  · skip
                    refine r_sel (clerkP b23 k1) ?_
                    refine r_ex fun kb => ?_
                    refine r_cat ?_
                    refine r_region ?_
                    refine p_mv rfl rfl ?_
                    refine p_nil rfl rfl ?_
                    refine p_fa fa_40_0 rfl rfl ?_
                    refine p_ldc tc_38 rfl (by rfl) rfl ?_
                    refine p_callc cf_25 (.c rfl .n) rfl (keep_Crash _ kb k1 hK1) ?_
                    refine o_keep (.c 2 rfl (.c 3 rfl (.c 8 rfl (.c 9 rfl (.c 10 rfl (.c 11 rfl .n)))))) ?_
                    refine r_join_1 (()) ?_ (Keep.app (.n) (.c 2 rfl (.c 3 rfl (.c 8 rfl (.c 9 rfl (.c 10 rfl (.c 11 rfl .n))))))) ?_
                    · trivial
                    · refine Ent.c (clerkP_close kb rfl) ?_; first | exact Ent.rfl | (repeat (first | exact Ent.rfl | refine Ent.c (SelB.ent) ?_ | refine Ent.c (SelS.ent) ?_ | refine Ent.cN ?_ | refine Ent.c (SelX.ent) ?_ | refine Ent.dropR ?_))
                  · skip
                    refine r_skip ?_
                    refine r_join_1 (()) ?_ (Keep.app (.n) (.c 2 rfl (.c 3 rfl (.c 8 rfl (.c 9 rfl (.c 10 rfl (.c 11 rfl .n))))))) ?_
                    · trivial
                    · first | exact Ent.rfl | (repeat (first | exact Ent.rfl | refine Ent.c (SelB.ent) ?_ | refine Ent.c (SelS.ent) ?_ | refine Ent.cN ?_ | refine Ent.c (SelX.ent) ?_ | refine Ent.dropR ?_))
                refine r_seq ?_
                refine r_sel (clerkP b23 k1) ?_
                refine r_ex fun kb => ?_
                refine r_cat ?_
                refine r_sel (keepP kb k1) ?_
                refine r_ex2 fun sb lv => ?_
                refine r_cat ?_
                refine r_rd lv fun hrl => ?_
                refine r_sel (penP b26 k1) ?_
                refine r_ex2 fun bb pv => ?_
                refine r_cat ?_
                refine r_rd pv fun hrp => ?_
                refine r_sel (boothP bb k1.shop) ?_
                refine r_ex3 fun hv ov dv => ?_
                refine r_cat ?_
                refine r_rd hv fun hrh => ?_
                refine r_plan _ [] mo (.c 2 rfl (.c 3 rfl (.c 8 rfl (.c 9 rfl (.c 10 rfl (.c 11 rfl .n)))))) Ent.rfl ?_
                refine qm_q (i := 0) (l := [.k 9]) rfl rfl rfl rfl (by kernel_rfl) rfl (fun He => PV.rq (pv_mv (.n rfl) rfl rfl (fun _ => rfl))) ?_
                refine qm_q (i := 1) (l := [.o 0]) rfl rfl rfl rfl (by kernel_rfl) rfl (fun He => PV.rq (pv_nilp (.n rfl) rfl rfl (fun _ => rfl))) ?_
                refine qm_q (i := 2) (l := [.o 1]) rfl rfl rfl rfl (by kernel_rfl) rfl (fun He => PV.rq (pv_fa fa_40_0 (.n rfl) rfl rfl (fun _ => rfl))) ?_
                refine qm_q (i := 3) (l := [.o 2]) rfl rfl rfl rfl (by kernel_rfl) rfl (fun He => RV.rq (q_ldc tc_38 (.n rfl) rfl rfl (fun _ => rfl) (by rfl))) ?_
                refine qm_q (i := 4) (l := [.o 3]) rfl rfl rfl rfl (by kernel_rfl) rfl (fun He => PV.rq (pv_nilp (.n rfl) rfl rfl (fun _ => rfl))) ?_
                refine qm_q (i := 5) (l := [.o 4]) rfl rfl rfl rfl (by kernel_rfl) rfl (fun He => PV.rq (pv_fa fa_44_0 (.n rfl) rfl rfl (fun _ => rfl))) ?_
                refine qm_q (i := 6) (l := [.o 5]) rfl rfl rfl rfl (by kernel_rfl) rfl (fun He => RV.rq (q_ldc tc_41 (.n rfl) rfl rfl (fun _ => rfl) (by rfl))) ?_
                refine qm_q (i := 7) (l := [.o 6]) rfl rfl rfl rfl (by kernel_rfl) rfl (fun He => rq_call cf_17 (.n rfl) rfl (.c rfl (fun _ => rfl) .n) (fun hg => (shop_Counts _ sb k1.shop).q)) ?_
                refine qm_q (i := 8) (l := [.k 10]) rfl rfl rfl rfl (by kernel_rfl) rfl (fun He => PV.rq (pv_mv (.n rfl) rfl rfl (fun _ => rfl))) ?_
                refine qm_q (i := 9) (l := [.o 8]) rfl rfl rfl rfl (by kernel_rfl) rfl (fun He => PV.rq (pv_nilp (.n rfl) rfl rfl (fun _ => rfl))) ?_
                refine qm_q (i := 10) (l := [.o 9]) rfl rfl rfl rfl (by kernel_rfl) rfl (fun He => PV.rq (pv_fa fa_60_0 (.n rfl) rfl rfl (fun _ => rfl))) ?_
                refine qm_q (i := 11) (l := [.o 10]) rfl rfl rfl rfl (by kernel_rfl) rfl (fun He => RV.rq (q_ldc tc_58 (.n rfl) rfl rfl (fun _ => rfl) (by rfl))) ?_
                refine qm_q (i := 12) (l := [.o 11]) rfl rfl rfl rfl (by kernel_rfl) rfl (fun He => rq_call cf_26 (.n rfl) rfl (.c rfl (fun _ => rfl) .n) (fun hg => (booth_Counts_o _ bb k1.shop hK1.sh hv ov dv).q)) ?_
                refine qm_q (i := 13) (l := [.o 7, .o 12]) rfl rfl rfl rfl (by kernel_rfl) rfl (fun He => PV.rq (pv_to (pv_ane eq_Cnts (.n rfl) rfl rfl rfl (fun _ => ⟨rfl, rfl⟩)) (show _ = Value.bool false by simp))) ?_
                refine qm_q (i := 14) (l := [.o 13]) rfl rfl rfl rfl (by kernel_rfl) rfl (fun He => PV.rq (pv_mv (.n rfl) rfl rfl (fun _ => rfl))) ?_
                refine qm_q (i := 15) (l := [.k 9, .o 14]) rfl rfl rfl rfl (by kernel_rfl) rfl (fun He => PV.rq (pv_ung (.s rfl rfl rfl) rfl (pv_mv (.n rfl) rfl rfl (fun _ => rfl)))) ?_
                refine qm_q (i := 16) (l := [.o 15, .o 14]) rfl rfl rfl rfl (by kernel_rfl) rfl (fun He => PV.rq (pv_ung (.s rfl rfl rfl) rfl (pv_nilp (.n rfl) rfl rfl (fun _ => rfl)))) ?_
                refine qm_q (i := 17) (l := [.o 16, .o 14]) rfl rfl rfl rfl (by kernel_rfl) rfl (fun He => PV.rq (pv_ung (.s rfl rfl rfl) rfl (pv_fa fa_40_0 (.n rfl) rfl rfl (fun _ => rfl)))) ?_
                refine qm_q (i := 18) (l := [.o 17, .o 14]) rfl rfl rfl rfl (by kernel_rfl) rfl (fun He => RV.rq (rv_ung (.s rfl rfl rfl) rfl (q_ldc tc_38 (.n rfl) rfl rfl (fun _ => rfl) (by rfl)))) ?_
                refine qm_q (i := 19) (l := [.o 18, .o 14]) rfl rfl rfl rfl (by kernel_rfl) rfl (fun He => PV.rq (pv_ung (.s rfl rfl rfl) rfl (pv_nilp (.n rfl) rfl rfl (fun _ => rfl)))) ?_
                refine qm_q (i := 20) (l := [.o 19, .o 14]) rfl rfl rfl rfl (by kernel_rfl) rfl (fun He => PV.rq (pv_ung (.s rfl rfl rfl) rfl (pv_fa fa_44_0 (.n rfl) rfl rfl (fun _ => rfl)))) ?_
                refine qm_q (i := 21) (l := [.o 20, .o 14]) rfl rfl rfl rfl (by kernel_rfl) rfl (fun He => RV.rq (rv_ung (.s rfl rfl rfl) rfl (q_ldc tc_41 (.n rfl) rfl rfl (fun _ => rfl) (by rfl)))) ?_
                refine qm_q (i := 23) (l := [.k 10, .o 14]) rfl rfl rfl rfl (by kernel_rfl) rfl (fun He => PV.rq (pv_ung (.s rfl rfl rfl) rfl (pv_mv (.n rfl) rfl rfl (fun _ => rfl)))) ?_
                refine qm_q (i := 24) (l := [.o 23, .o 14]) rfl rfl rfl rfl (by kernel_rfl) rfl (fun He => PV.rq (pv_ung (.s rfl rfl rfl) rfl (pv_nilp (.n rfl) rfl rfl (fun _ => rfl)))) ?_
                refine qm_q (i := 25) (l := [.o 24, .o 14]) rfl rfl rfl rfl (by kernel_rfl) rfl (fun He => PV.rq (pv_ung (.s rfl rfl rfl) rfl (pv_fa fa_60_0 (.n rfl) rfl rfl (fun _ => rfl)))) ?_
                refine qm_q (i := 26) (l := [.o 25, .o 14]) rfl rfl rfl rfl (by kernel_rfl) rfl (fun He => RV.rq (rv_ung (.s rfl rfl rfl) rfl (q_ldc tc_58 (.n rfl) rfl rfl (fun _ => rfl) (by rfl)))) ?_
                refine qm_q (i := 27) (l := [.o 26, .o 14]) rfl rfl rfl rfl (by kernel_rfl) rfl (fun He => PV.rq (pv_ung (.s rfl rfl rfl) rfl (pv_nilp (.n rfl) rfl rfl (fun _ => rfl)))) ?_
                refine qm_q (i := 28) (l := [.o 27, .o 14]) rfl rfl rfl rfl (by kernel_rfl) rfl (fun He => PV.rq (pv_ung (.s rfl rfl rfl) rfl (pv_fa fa_64_2 (.n rfl) rfl rfl (fun _ => rfl)))) ?_
                refine qm_q (i := 29) (l := [.o 28, .o 14]) rfl rfl rfl rfl (by kernel_rfl) rfl (fun He => RV.rq (rv_ung (.s rfl rfl rfl) rfl (q_ldc tc_45 (.n rfl) rfl rfl (fun _ => rfl) (by rfl)))) ?_
                refine qm_calln (i := 22) [.o 21, .o 14] (by kernel_rfl) (by kernel_rfl) rfl rfl rfl rfl (by kernel_rfl) (by kernel_rfl) ⟨_, .s rfl rfl rfl, rfl⟩ cf_18 rfl (.c rfl .n) (shop_HoldsN _ sb k1.shop (by omega) (by omega)) fun hv1 => ?_
                refine qm_cat ?_
                refine qm_rd hv1 fun hr1 => ?_
                refine qm_keep ?_
                refine qm_q (i := 30) (l := [.o 22, .o 29, .o 14]) rfl rfl rfl rfl (by kernel_rfl) rfl (fun He => rq_ung (.s rfl rfl rfl) rfl (rq_call cf_20 (.n rfl) rfl (.c rfl (fun _ => rfl) (.c rfl (fun _ => rfl) .n)) (fun hg => fnv_tru (ref_SameHolds _ _ _ _ k1.shop.holds k1.shop.holds hr1.own hrh.own (by omega))))) ?_
                refine qm_q (i := 31) (l := [.o 30, .o 14]) rfl rfl rfl rfl (by kernel_rfl) rfl (fun He => PV.rq (pv_ung (.s rfl rfl rfl) rfl (pv_not (.n rfl) rfl rfl (fun _ => rfl)))) ?_
                refine qm_q (i := 32) (l := [.o 14, .o 31]) rfl rfl rfl rfl (by kernel_rfl) rfl (fun He => PV.rq (pv_or (.n rfl) rfl rfl rfl (fun _ => ⟨rfl, fun hc => by first | rfl | (rw [hc]; rfl) | simp_all⟩))) ?_
                refine qm_q (i := 33) (l := [.o 32]) rfl rfl rfl rfl (by kernel_rfl) rfl (fun He => PV.rq (pv_mv (.n rfl) rfl rfl (fun _ => rfl))) ?_
                refine qm_q (i := 34) (l := [.k 9, .o 33]) rfl rfl rfl rfl (by kernel_rfl) rfl (fun He => PV.rq (pv_ung (.s rfl rfl rfl) rfl (pv_mv (.n rfl) rfl rfl (fun _ => rfl)))) ?_
                refine qm_q (i := 35) (l := [.o 34, .o 33]) rfl rfl rfl rfl (by kernel_rfl) rfl (fun He => PV.rq (pv_ung (.s rfl rfl rfl) rfl (pv_nilp (.n rfl) rfl rfl (fun _ => rfl)))) ?_
                refine qm_q (i := 36) (l := [.o 35, .o 33]) rfl rfl rfl rfl (by kernel_rfl) rfl (fun He => PV.rq (pv_ung (.s rfl rfl rfl) rfl (pv_fa fa_40_0 (.n rfl) rfl rfl (fun _ => rfl)))) ?_
                refine qm_q (i := 37) (l := [.o 36, .o 33]) rfl rfl rfl rfl (by kernel_rfl) rfl (fun He => RV.rq (rv_ung (.s rfl rfl rfl) rfl (q_ldc tc_38 (.n rfl) rfl rfl (fun _ => rfl) (by rfl)))) ?_
                refine qm_q (i := 39) (l := [.k 10, .o 33]) rfl rfl rfl rfl (by kernel_rfl) rfl (fun He => PV.rq (pv_ung (.s rfl rfl rfl) rfl (pv_mv (.n rfl) rfl rfl (fun _ => rfl)))) ?_
                refine qm_q (i := 40) (l := [.o 39, .o 33]) rfl rfl rfl rfl (by kernel_rfl) rfl (fun He => PV.rq (pv_ung (.s rfl rfl rfl) rfl (pv_nilp (.n rfl) rfl rfl (fun _ => rfl)))) ?_
                refine qm_q (i := 41) (l := [.o 40, .o 33]) rfl rfl rfl rfl (by kernel_rfl) rfl (fun He => PV.rq (pv_ung (.s rfl rfl rfl) rfl (pv_fa fa_60_1 (.n rfl) rfl rfl (fun _ => rfl)))) ?_
                refine qm_q (i := 42) (l := [.o 41, .o 33]) rfl rfl rfl rfl (by kernel_rfl) rfl (fun He => RV.rq (rv_ung (.s rfl rfl rfl) rfl (q_ldc tc_42 (.n rfl) rfl rfl (fun _ => rfl) (by rfl)))) ?_
                refine qm_calln (i := 38) [.o 37, .o 33] (by kernel_rfl) (by kernel_rfl) rfl rfl rfl rfl (by kernel_rfl) (by kernel_rfl) ⟨_, .s rfl rfl rfl, rfl⟩ cf_19 rfl (.c rfl .n) (keep_Records_oN _ kb k1 hK1 sb lv) fun rv1 => ?_
                refine qm_cat ?_
                refine qm_rd rv1 fun hq1 => ?_
                refine qm_keep ?_
                refine qm_q (i := 43) (l := [.o 38, .o 42, .o 33]) rfl rfl rfl rfl (by kernel_rfl) rfl (fun He => rq_ung (.s rfl rfl rfl) rfl (rq_call cf_21 (.n rfl) rfl (.c rfl (fun _ => rfl) (.c rfl (fun _ => rfl) .n)) (fun hg => fnv_tru (ref_SameRecords _ _ _ _ k1.l k1.l hq1.own hrp.own (by omega))))) ?_
                refine qm_q (i := 44) (l := [.o 43, .o 33]) rfl rfl rfl rfl (by kernel_rfl) rfl (fun He => PV.rq (pv_ung (.s rfl rfl rfl) rfl (pv_not (.n rfl) rfl rfl (fun _ => rfl)))) ?_
                refine qm_q (i := 45) (l := [.o 33, .o 44]) rfl rfl rfl rfl (by kernel_rfl) rfl (fun He => PV.rq (pv_or (.n rfl) rfl rfl rfl (fun _ => ⟨rfl, fun hc => by first | rfl | (rw [hc]; rfl) | simp_all⟩))) ?_
                refine qm_n (by kernel_rfl) (by kernel_rfl) (by kernel_rfl) (by kernel_rfl) (.c 2 rfl (.c 3 rfl (.c 8 rfl (.c 9 rfl (.c 10 rfl (.c 11 rfl (.c 124 rfl .n))))))) ?_
                refine r_cond _ rfl (fun h8 => ?_) (fun h8 => ?_)
                · simp at h8
                · skip
                  refine r_skip ?_
                  refine r_end ?_
                  refine r_region ?_
                  refine p_mv rfl rfl ?_
                  refine p_add rfl rfl (by omega) rfl ?_
                  refine p_as rfl rfl ?_
                  refine o_keep (.c 2 rfl (.c 3 rfl (.c 8 rfl (.c 9 rfl (.c 10 rfl (.c 11 rfl .n)))))) ?_
                  refine r_back_2 (i + 1) (k1) ?_ ?_ (Keep.app (.c 11 rfl .n) (.c 2 rfl (.c 3 rfl (.c 8 rfl (.c 9 rfl (.c 10 rfl .n)))))) ?_
                  · exact ⟨by omega, hK1⟩
                  · omega
                  · refine Ent.tr (boothP_close (b := bb) (s := k1.shop) hv ov dv rfl rfl rfl rfl) ?_; refine Ent.tr (keepP_close (b := kb) (k := k1) sb lv rfl rfl) ?_; refine Ent.c (clerkP_close kb rfl) ?_; refine Ent.c (penP_close bb pv rfl rfl) ?_; first | exact Ent.rfl | (repeat (first | exact Ent.rfl | refine Ent.c (SelB.ent) ?_ | refine Ent.c (SelS.ent) ?_ | refine Ent.cN ?_ | refine Ent.c (SelX.ent) ?_ | refine Ent.dropR ?_))
            · skip
              refine r_exit rfl ?_
              refine r_seq ?_
              refine r_region ?_
              refine p_as rfl rfl ?_
              refine o_keep (.c 8 rfl .n) ?_
              refine r_retv hF rfl (.c (.t rfl) .n) ?_ ?_
              · first | exact Ent.rfl | (repeat (first | exact Ent.rfl | refine Ent.c (SelB.ent) ?_ | refine Ent.c (SelS.ent) ?_ | refine Ent.cN ?_ | refine Ent.c (SelX.ent) ?_ | refine Ent.dropR ?_))
              · first | rfl | exact bool_eq (by simp)

end Go.Proofs.Ytmakdilmibjpbac
