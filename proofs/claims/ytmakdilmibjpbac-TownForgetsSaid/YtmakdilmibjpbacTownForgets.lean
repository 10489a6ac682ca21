/- The walks of TownForgets: written by a program of ours (gen.py) over the engine. -/
import Derived.Test.YtmakdilmibjpbacPlain
import Derived.Test.YtmakdilmibjpbacFacts
import Derived.Test.YtmakdilmibjpbacTownW
namespace Go.Proofs.Ytmakdilmibjpbac
open Go Go.RowKit
set_option linter.unusedVariables false
set_option linter.unusedSimpArgs false
set_option maxRecDepth 20000

theorem law_TownForgets (M : Amb) (H : List HP) (ws : List Int) (hws : ws.length = 6) (xs : List TStep) (sv : Value) (hs : Rd M [] sv 3 (xs.map rTS)) (hx : ∀ x ∈ xs, Rd M [] x.wv 2 (x.wants.map rW)) : FnV Try.prog M H 7 [.agg (ws.map vI).toArray, sv] (.bool true) := by
  refine fn_intro Try.func7 rfl Try.ntmps7 rfl fun F hF => ?_
  refine r_seq ?_
  refine r_region ?_
  refine p_box rfl rfl rfl fun b2 => ?_
  refine p_as rfl rfl ?_
  refine o_keep (.c 1 rfl (.c 2 rfl (.c 4 rfl .n))) ?_
  refine r_seq ?_
  refine r_seq ?_
  refine r_region ?_
  refine p_callv cf_27 (.n) rfl (law_townBegun _ _) ?_
  refine p_not rfl rfl ?_
  refine o_keep (.c 1 rfl (.c 2 rfl (.c 4 rfl (.c 10 rfl .n)))) ?_
  refine r_cond _ rfl (fun h1 => ?_) (fun h1 => ?_)
  · simp at h1
  · skip
    refine r_skip ?_
    refine r_seq ?_
    refine r_seq ?_
    refine r_region ?_
    refine p_mv rfl rfl ?_
    refine p_callv cf_28 (.c rfl .n) rfl ((law_great _ xs sv hs hx).q) ?_
    refine o_keep (.c 1 rfl (.c 2 rfl (.c 4 rfl (.c 12 rfl .n)))) ?_
    refine r_cond _ rfl (fun h2 => ?_) (fun h2 => ?_)
    · skip
      refine r_seq ?_
      refine r_region ?_
      refine p_as rfl rfl ?_
      refine o_keep (.c 1 rfl (.c 2 rfl (.c 4 rfl .n))) ?_
      refine r_retv hF rfl (.c (.t rfl) .n) ?_ ?_
      · first | exact Ent.rfl | (repeat (first | exact Ent.rfl | refine Ent.c (SelB.ent) ?_ | refine Ent.c (SelS.ent) ?_ | refine Ent.cN ?_ | refine Ent.c (SelX.ent) ?_ | refine Ent.dropR ?_))
      · first | rfl | exact bool_eq (by simp)
    · skip
      have hgr := great_no h2
      refine r_skip ?_
      refine r_seq ?_
      rcases hn : newT ws with _ | t0
      · skip
        refine r_plan _ [] mo (.c 1 rfl (.c 2 rfl (.c 4 rfl .n))) Ent.rfl ?_
        refine qm_q (i := 0) (l := [.k 2]) rfl rfl rfl rfl (by kernel_rfl) rfl (fun He => RV.rq (q_lda ta_23 (.n rfl) rfl rfl (fun _ => rfl) (by exact (Tk.all (by first | rfl | assumption | (simp only [List.drop_zero, List.length_map]; assumption) | (simp [*]; done)))))) ?_
        refine qm_q (i := 2) (l := [.k 2]) rfl rfl rfl rfl (by kernel_rfl) rfl (fun He => RV.rq (q_lda ta_23 (.n rfl) rfl rfl (fun _ => rfl) (by exact (Tk.all (by first | rfl | assumption | (simp only [List.drop_zero, List.length_map]; assumption) | (simp [*]; done)))))) ?_
        refine qm_callc (i := 1) [.o 0] (by kernel_rfl) (by kernel_rfl) rfl rfl rfl rfl (by kernel_rfl) (by kernel_rfl) ⟨_, .n rfl, rfl⟩ cf_29 rfl (.c rfl .n) (town_New_none _ ws hws hn) ?_
        refine qb_callc (i := 3) [.o 2] (by kernel_rfl) (by kernel_rfl) rfl rfl rfl rfl (by kernel_rfl) (by kernel_rfl) (by kernel_rfl) ⟨_, .n rfl, rfl⟩ cf_29 rfl (.c rfl .n) (town_New_none _ ws hws hn) ?_
        refine qm_q (i := 4) (l := [.o 1]) rfl rfl rfl rfl (by kernel_rfl) rfl (fun He => PV.rq (pv_as (.n rfl) rfl rfl (fun _ => rfl))) ?_
        refine qm_q (i := 5) (l := [.o 3]) rfl rfl rfl rfl (by kernel_rfl) rfl (fun He => PV.rq (pv_as (.n rfl) rfl rfl (fun _ => rfl))) ?_
        refine qm_n (by kernel_rfl) (by kernel_rfl) (by kernel_rfl) (by kernel_rfl) (.c 1 rfl (.c 4 rfl (.c 5 rfl (.c 6 rfl .n)))) ?_
        refine r_seq ?_
        refine r_seq ?_
        refine r_region ?_
        refine p_mv rfl rfl ?_
        refine l_op (x_p (pv_peqn Try.underlying68 (.n rfl) rfl rfl rfl (fun _ => ⟨rfl, rfl⟩)) rfl rfl ?_)
        refine p_mv rfl rfl ?_
        refine l_op (x_p (pv_mv (.s rfl rfl rfl) rfl rfl (by first | exact fun _ => rfl | exact id | exact fun h => (Bool.and_eq_true_iff.1 h).1 | simp_all)) rfl rfl ?_)
        refine l_op (x_p (pv_peqn Try.underlying68 (.s rfl rfl rfl) rfl rfl rfl (by refine fun h => ⟨?_, ?_⟩ <;> first | rfl | exact h | exact (Bool.and_eq_true_iff.1 h).1 | simp_all)) rfl rfl ?_)
        refine l_op (x_p (pv_or (.n rfl) rfl rfl rfl (fun _ => ⟨rfl, fun hc => by first | rfl | (rw [hc]; rfl) | simp_all⟩)) rfl rfl ?_)
        refine o_keep (.c 1 rfl (.c 4 rfl (.c 5 rfl (.c 6 rfl (.c 22 rfl .n))))) ?_
        refine r_cond _ rfl (fun h3 => ?_) (fun h3 => ?_)
        · skip
          refine r_seq ?_
          refine r_region ?_
          refine p_mv rfl rfl ?_
          refine l_op (x_p (pv_peqn Try.underlying68 (.n rfl) rfl rfl rfl (fun _ => ⟨rfl, rfl⟩)) rfl rfl ?_)
          refine p_mv rfl rfl ?_
          refine l_op (x_p (pv_mv (.s rfl rfl rfl) rfl rfl (by first | exact fun _ => rfl | exact id | exact fun h => (Bool.and_eq_true_iff.1 h).1 | simp_all)) rfl rfl ?_)
          refine l_op (x_p (pv_peqn Try.underlying68 (.s rfl rfl rfl) rfl rfl rfl (by refine fun h => ⟨?_, ?_⟩ <;> first | rfl | exact h | exact (Bool.and_eq_true_iff.1 h).1 | simp_all)) rfl rfl ?_)
          refine l_op (x_p (pv_and (.n rfl) rfl rfl rfl (fun _ => ⟨rfl, fun hc => by first | rfl | (rw [hc]; rfl) | simp_all⟩)) rfl rfl ?_)
          refine p_as rfl rfl ?_
          refine o_keep (.c 1 rfl (.c 4 rfl (.c 5 rfl (.c 6 rfl .n)))) ?_
          refine r_retv hF rfl (.c (.t rfl) .n) ?_ ?_
          · first | exact Ent.rfl | (repeat (first | exact Ent.rfl | refine Ent.c (SelB.ent) ?_ | refine Ent.c (SelS.ent) ?_ | refine Ent.cN ?_ | refine Ent.c (SelX.ent) ?_ | refine Ent.dropR ?_))
          · first | rfl | exact bool_eq (by simp)
        · simp at h3
      · skip
        refine r_plan _ [] mo (.c 1 rfl (.c 2 rfl (.c 4 rfl .n))) Ent.rfl ?_
        refine qm_q (i := 0) (l := [.k 2]) rfl rfl rfl rfl (by kernel_rfl) rfl (fun He => RV.rq (q_lda ta_23 (.n rfl) rfl rfl (fun _ => rfl) (by exact (Tk.all (by first | rfl | assumption | (simp only [List.drop_zero, List.length_map]; assumption) | (simp [*]; done)))))) ?_
        refine qm_q (i := 2) (l := [.k 2]) rfl rfl rfl rfl (by kernel_rfl) rfl (fun He => RV.rq (q_lda ta_23 (.n rfl) rfl rfl (fun _ => rfl) (by exact (Tk.all (by first | rfl | assumption | (simp only [List.drop_zero, List.length_map]; assumption) | (simp [*]; done)))))) ?_
        refine qm_calle (i := 1) [.o 0] (by kernel_rfl) (by kernel_rfl) rfl rfl rfl rfl (by kernel_rfl) (by kernel_rfl) ⟨_, .n rfl, rfl⟩ cf_29 rfl (.c rfl .n) (town_New_some _ ws hws hn) fun tb => ?_
        refine qm_cat ?_
        refine qb_calle (i := 3) [.o 2] (by kernel_rfl) (by kernel_rfl) rfl rfl rfl rfl (by kernel_rfl) (by kernel_rfl) (by kernel_rfl) ⟨_, .n rfl, rfl⟩ cf_29 rfl (.c rfl .n) (town_New_some _ ws hws hn) fun tc => ?_
        refine qm_cat ?_
        refine qm_q (i := 4) (l := [.o 1]) rfl rfl rfl rfl (by kernel_rfl) rfl (fun He => PV.rq (pv_as (.n rfl) rfl rfl (fun _ => rfl))) ?_
        refine qm_q (i := 5) (l := [.o 3]) rfl rfl rfl rfl (by kernel_rfl) rfl (fun He => PV.rq (pv_as (.n rfl) rfl rfl (fun _ => rfl))) ?_
        refine qm_n (by kernel_rfl) (by kernel_rfl) (by kernel_rfl) (by kernel_rfl) (.c 1 rfl (.c 4 rfl (.c 5 rfl (.c 6 rfl .n)))) ?_
        refine r_seq ?_
        refine r_seq ?_
        refine r_region ?_
        refine p_mv rfl rfl ?_
        refine l_op (x_p (pv_peqn Try.underlying68 (.n rfl) rfl rfl rfl (fun _ => ⟨rfl, rfl⟩)) rfl rfl ?_)
        refine p_mv rfl rfl ?_
        refine l_op (x_p (pv_mv (.s rfl rfl rfl) rfl rfl (by first | exact fun _ => rfl | exact id | exact fun h => (Bool.and_eq_true_iff.1 h).1 | simp_all)) rfl rfl ?_)
        refine l_op (x_p (pv_peqn Try.underlying68 (.s rfl rfl rfl) rfl rfl rfl (by refine fun h => ⟨?_, ?_⟩ <;> first | rfl | exact h | exact (Bool.and_eq_true_iff.1 h).1 | simp_all)) rfl rfl ?_)
        refine l_op (x_p (pv_or (.n rfl) rfl rfl rfl (fun _ => ⟨rfl, fun hc => by first | rfl | (rw [hc]; rfl) | simp_all⟩)) rfl rfl ?_)
        refine o_keep (.c 1 rfl (.c 4 rfl (.c 5 rfl (.c 6 rfl (.c 22 rfl .n))))) ?_
        refine r_cond _ rfl (fun h4 => ?_) (fun h4 => ?_)
        · simp at h4
        · skip
          refine r_skip ?_
          refine r_seq ?_
          refine r_seq ?_
          refine r_region ?_
          refine p_as rfl rfl ?_
          refine o_keep (.c 1 rfl (.c 4 rfl (.c 5 rfl (.c 6 rfl (.c 7 rfl .n))))) ?_
          refine r_block ?_
          refine r_loop_2 (fun (i : Nat) (t : TownS) => [(7, true, .int .i64 (i : Int))]) (.c 1 rfl (.c 4 rfl (.c 5 rfl (.c 6 rfl .n)))) (fun (i : Nat) (t : TownS) => townP tb t :: townP tc t :: blk b2 (ws.map vI) 23 :: H) (fun (i : Nat) (t : TownS) => i ≤ xs.length ∧ TInv t) (fun (i : Nat) (t : TownS) => xs.length - i) (0) (t0) ?_ (.c 7 rfl .n) ?_ (fun i t hI => ?_)
          · exact ⟨Nat.zero_le _, (TInv.new hws hn).1⟩
          · first | exact Ent.rfl | (repeat (first | exact Ent.rfl | refine Ent.c (SelB.ent) ?_ | refine Ent.c (SelS.ent) ?_ | refine Ent.cN ?_ | refine Ent.c (SelX.ent) ?_ | refine Ent.dropR ?_))
          · skip
            obtain ⟨hil, hT⟩ := hI
            refine r_seq ?_
            refine r_seq ?_
            refine r_region ?_
            refine p_mv rfl rfl ?_
            refine p_mv rfl rfl ?_
            refine l_op (x_p (pv_lens hs.len ⟨_, Try.underlying66⟩ (.n rfl) rfl rfl rfl rfl (fun _ => rfl)) rfl rfl ?_)
            refine p_lss rfl rfl rfl ?_
            refine o_keep (.c 1 rfl (.c 4 rfl (.c 5 rfl (.c 6 rfl (.c 7 rfl (.c 32 rfl .n)))))) ?_
            refine r_cond _ rfl (fun h5 => ?_) (fun h5 => ?_)
            · skip
              obtain ⟨x, hxi⟩ := getlt (l := xs) (i := i) (by have := of_decide_eq_true h5; omega)
              have hil2 := (List.getElem?_eq_some_iff.1 hxi).1
              have hxm := List.mem_of_getElem? hxi
              have hxr := hx x hxm
              have hxw := hgr.2 x hxm
              obtain ⟨t1, n1, hst⟩ := step_ex t x.s
              have hT1 := step_inv hT hst
              have hw6 := worldT_len hT1.len
              refine r_skip ?_
              refine r_seq ?_
              refine r_block ?_
              refine r_seq ?_
              refine r_region ?_
              refine p_mv rfl rfl ?_
              refine p_mv rfl rfl ?_
              refine p_mv rfl rfl ?_
              refine p_idx Try.underlying66 (.ofA ta_72) hs rfl (mapget hxi) rfl rfl rfl ?_
              refine p_ldats 0 ta_72 (Rd.ent hs (by repeat (first | exact Ent.rfl | exact Ent.one Ent.h | exact Ent.one (SelS.ent) | exact Ent.nil | exact Ent.left | refine Ent.dropR ?_ | refine Ent.tr Ent.skip ?_))) (mapget hxi) rfl rfl (.s (.s (.s .z))) rfl ?_
              refine p_callc cf_31 (.c rfl (.c rfl .n)) rfl (town_StepC _ tb t hT x hst hxr (by omega)) ?_
              refine p_as rfl rfl ?_
              refine o_keep (.c 1 rfl (.c 4 rfl (.c 5 rfl (.c 6 rfl (.c 7 rfl (.c 8 rfl .n)))))) ?_
              refine r_seq ?_
              refine r_seq ?_
              refine r_region ?_
              refine p_mv rfl rfl ?_
              refine p_mv rfl rfl ?_
              refine p_idx Try.underlying66 (.ofA ta_72) hs rfl (mapget hxi) rfl rfl rfl ?_
              refine p_faat fa_72_0 (Rd.sh hs (mapget hxi)) rfl rfl ?_
              refine p_ldat 0 tc_3 (Rd.ent hs (by repeat (first | exact Ent.rfl | exact Ent.one Ent.h | exact Ent.one (SelS.ent) | exact Ent.nil | exact Ent.left | refine Ent.dropR ?_ | refine Ent.tr Ent.skip ?_))) (mapget hxi) rfl rfl rfl rfl ?_
              refine p_eql rfl rfl rfl ?_
              refine o_keep (.c 1 rfl (.c 4 rfl (.c 5 rfl (.c 6 rfl (.c 7 rfl (.c 8 rfl (.c 46 rfl .n))))))) ?_
              refine r_cond _ rfl (fun h6 => ?_) (fun h6 => ?_)
              · skip
                have h7 : x.kind = 7 := of_decide_eq_true h6
                obtain rfl : t1 = t := by have := hT.forget (x := x.s) h7; rw [hst] at this; exact this
                refine r_exit rfl ?_
                refine r_region ?_
                refine p_mv rfl rfl ?_
                refine p_add rfl rfl (by omega) rfl ?_
                refine p_as rfl rfl ?_
                refine o_keep (.c 1 rfl (.c 4 rfl (.c 5 rfl (.c 6 rfl (.c 7 rfl .n))))) ?_
                refine r_back_2 (i + 1) (t1) ?_ ?_ (Keep.app (.c 7 rfl .n) (.c 1 rfl (.c 4 rfl (.c 5 rfl (.c 6 rfl .n))))) ?_
                · exact ⟨by omega, hT1⟩
                · omega
                · first | exact Ent.rfl | (repeat (first | exact Ent.rfl | refine Ent.c (SelB.ent) ?_ | refine Ent.c (SelS.ent) ?_ | refine Ent.cN ?_ | refine Ent.c (SelX.ent) ?_ | refine Ent.dropR ?_))
              · skip
                refine r_skip ?_
                refine r_seq ?_
                refine r_plan (_) ([townP tb t1, townP tc t]) mo (.c 1 rfl (.c 4 rfl (.c 5 rfl (.c 6 rfl (.c 7 rfl (.c 8 rfl .n)))))) (Ent.c (SelX.ent) (SelX.ent)) ?_
                refine qm_q (i := 0) (l := [.k 6]) rfl rfl rfl rfl (by kernel_rfl) rfl (fun He => PV.rq (pv_mv (.n rfl) rfl rfl (fun _ => rfl))) ?_
                refine qm_q (i := 1) (l := [.k 1]) rfl rfl rfl rfl (by kernel_rfl) rfl (fun He => PV.rq (pv_mv (.n rfl) rfl rfl (fun _ => rfl))) ?_
                refine qm_q (i := 2) (l := [.k 7]) rfl rfl rfl rfl (by kernel_rfl) rfl (fun He => PV.rq (pv_mv (.n rfl) rfl rfl (fun _ => rfl))) ?_
                refine qm_q (i := 3) (l := [.o 1, .o 2]) rfl rfl rfl rfl (by kernel_rfl) rfl (fun He => PV.rq (pv_idx Try.underlying66 (.ofA ta_72) hs (fun hg => ⟨rfl, (mapget hxi)⟩) (.n rfl) rfl rfl rfl (fun _ => ⟨rfl, rfl⟩))) ?_
                refine qm_q (i := 4) (l := [.o 3]) rfl rfl rfl rfl (by kernel_rfl) rfl (fun He => RV.rq (rv_ldats (j := 0) ta_72 (Rd.ent hs (by repeat (first | exact Ent.rfl | exact Ent.one Ent.h | exact Ent.one (SelS.ent) | exact Ent.nil | exact Ent.left | refine Ent.dropR ?_ | refine Ent.tr Ent.skip ?_))) (fun hg => (mapget hxi)) (.n rfl) rfl rfl (fun _ => rfl) rfl (.s (.s (.s .z))))) ?_
                refine qm_q (i := 6) (l := [.k 8]) rfl rfl rfl rfl (by kernel_rfl) rfl (fun He => PV.rq (pv_mv (.n rfl) rfl rfl (fun _ => rfl))) ?_
                refine qm_callc (i := 5) [.o 0, .o 4] (by kernel_rfl) (by kernel_rfl) rfl rfl rfl rfl (by kernel_rfl) (by kernel_rfl) ⟨_, .n rfl, rfl⟩ cf_31 rfl (.c rfl (.c rfl .n)) (town_StepC _ tc t hT x hst hxr (by omega)) ?_
                refine qm_town fun bb2 d0 d1 d2 pb2 => ?_
                refine qm_cat ?_
                refine qm_keep ?_
                refine qm_keep ?_
                refine qm_keep ?_
                refine qm_keep ?_
                refine qm_town fun bb c0 c1 c2 pb => ?_
                refine qm_cat ?_
                refine qm_keep ?_
                refine qm_keep ?_
                refine qm_keep ?_
                refine qm_keep ?_
                refine qm_q (i := 7) (l := [.o 5, .o 6]) rfl rfl rfl rfl (by kernel_rfl) rfl (fun He => PV.rq (pv_to (pv_neq (.n rfl) rfl rfl rfl (fun _ => ⟨rfl, rfl⟩)) (show _ = Value.bool false by simp))) ?_
                refine qm_q (i := 8) (l := [.o 7]) rfl rfl rfl rfl (by kernel_rfl) rfl (fun He => PV.rq (pv_mv (.n rfl) rfl rfl (fun _ => rfl))) ?_
                refine qm_q (i := 9) (l := [.k 5, .o 8]) rfl rfl rfl rfl (by kernel_rfl) rfl (fun He => PV.rq (pv_ung (.s rfl rfl rfl) rfl (pv_mv (.n rfl) rfl rfl (fun _ => rfl)))) ?_
                refine qm_q (i := 10) (l := [.o 9, .o 8]) rfl rfl rfl rfl (by kernel_rfl) rfl (fun He => rq_ung (.s rfl rfl rfl) rfl (rq_call cf_33 (.n rfl) rfl (.c rfl (fun _ => rfl) .n) (fun hg => (town_World_o _ tb t1 bb c0 c1 c2 pb hT1).q))) ?_
                refine qm_q (i := 11) (l := [.k 6, .o 8]) rfl rfl rfl rfl (by kernel_rfl) rfl (fun He => PV.rq (pv_ung (.s rfl rfl rfl) rfl (pv_mv (.n rfl) rfl rfl (fun _ => rfl)))) ?_
                refine qm_q (i := 12) (l := [.o 11, .o 8]) rfl rfl rfl rfl (by kernel_rfl) rfl (fun He => rq_ung (.s rfl rfl rfl) rfl (rq_call cf_33 (.n rfl) rfl (.c rfl (fun _ => rfl) .n) (fun hg => (town_World_o _ tc t1 bb2 d0 d1 d2 pb2 hT1).q))) ?_
                refine qm_q (i := 13) (l := [.o 10, .o 12, .o 8]) rfl rfl rfl rfl (by kernel_rfl) rfl (fun He => PV.rq (pv_ung (.s rfl rfl rfl) rfl (pv_to (pv_ane (eq_World hw6 hw6) (.n rfl) rfl rfl rfl (fun _ => ⟨rfl, rfl⟩)) (show _ = Value.bool false by simp)))) ?_
                refine qm_q (i := 14) (l := [.o 8, .o 13]) rfl rfl rfl rfl (by kernel_rfl) rfl (fun He => PV.rq (pv_or (.n rfl) rfl rfl rfl (fun _ => ⟨rfl, fun hc => by first | rfl | (rw [hc]; rfl) | simp_all⟩))) ?_
                refine qm_q (i := 15) (l := [.o 14]) rfl rfl rfl rfl (by kernel_rfl) rfl (fun He => PV.rq (pv_mv (.n rfl) rfl rfl (fun _ => rfl))) ?_
                refine qm_q (i := 16) (l := [.k 5, .o 15]) rfl rfl rfl rfl (by kernel_rfl) rfl (fun He => PV.rq (pv_ung (.s rfl rfl rfl) rfl (pv_mv (.n rfl) rfl rfl (fun _ => rfl)))) ?_
                refine qm_q (i := 18) (l := [.k 6, .o 15]) rfl rfl rfl rfl (by kernel_rfl) rfl (fun He => PV.rq (pv_ung (.s rfl rfl rfl) rfl (pv_mv (.n rfl) rfl rfl (fun _ => rfl)))) ?_
                refine qm_calln (i := 17) [.o 16, .o 15] (by kernel_rfl) (by kernel_rfl) rfl rfl rfl rfl (by kernel_rfl) (by kernel_rfl) ⟨_, .s rfl rfl rfl, rfl⟩ cf_35 rfl (.c rfl .n) (town_MailN _ tb t1 bb c0 c1 c2 pb hT1) fun m1 => ?_
                refine qm_cat ?_
                refine qm_rd m1 fun hrm1 => ?_
                refine qm_keep ?_
                refine qm_calln (i := 19) [.o 18, .o 15] (by kernel_rfl) (by kernel_rfl) rfl rfl rfl rfl (by kernel_rfl) (by kernel_rfl) ⟨_, .s rfl rfl rfl, rfl⟩ cf_35 rfl (.c rfl .n) (town_MailN _ tc t1 bb2 d0 d1 d2 pb2 hT1) fun m2 => ?_
                refine qm_cat ?_
                refine qm_rd m2 fun hrm2 => ?_
                refine qm_keep ?_
                refine qm_q (i := 20) (l := [.o 17, .o 19, .o 15]) rfl rfl rfl rfl (by kernel_rfl) rfl (fun He => rq_ung (.s rfl rfl rfl) rfl (rq_call cf_34 (.n rfl) rfl (.c rfl (fun _ => rfl) (.c rfl (fun _ => rfl) .n)) (fun hg => fnv_tru (ref_SameMail _ _ m1 m2 t1.post t1.post hrm1.own hrm2.own (by have := hT1.full; omega))))) ?_
                refine qm_q (i := 21) (l := [.o 20, .o 15]) rfl rfl rfl rfl (by kernel_rfl) rfl (fun He => PV.rq (pv_ung (.s rfl rfl rfl) rfl (pv_not (.n rfl) rfl rfl (fun _ => rfl)))) ?_
                refine qm_q (i := 22) (l := [.o 15, .o 21]) rfl rfl rfl rfl (by kernel_rfl) rfl (fun He => PV.rq (pv_or (.n rfl) rfl rfl rfl (fun _ => ⟨rfl, fun hc => by first | rfl | (rw [hc]; rfl) | simp_all⟩))) ?_
                refine qm_q (i := 23) (l := [.o 22]) rfl rfl rfl rfl (by kernel_rfl) rfl (fun He => PV.rq (pv_mv (.n rfl) rfl rfl (fun _ => rfl))) ?_
                refine qm_q (i := 24) (l := [.k 5, .o 23]) rfl rfl rfl rfl (by kernel_rfl) rfl (fun He => PV.rq (pv_ung (.s rfl rfl rfl) rfl (pv_mv (.n rfl) rfl rfl (fun _ => rfl)))) ?_
                refine qm_q (i := 25) (l := [.o 24, .o 23]) rfl rfl rfl rfl (by kernel_rfl) rfl (fun He => PV.rq (pv_ung (.s rfl rfl rfl) rfl (pv_nilp (.n rfl) rfl rfl (fun _ => rfl)))) ?_
                refine qm_q (i := 26) (l := [.o 25, .o 23]) rfl rfl rfl rfl (by kernel_rfl) rfl (fun He => PV.rq (pv_ung (.s rfl rfl rfl) rfl (pv_fa fa_84_0 (.n rfl) rfl rfl (fun _ => rfl)))) ?_
                refine qm_q (i := 27) (l := [.o 26, .o 23]) rfl rfl rfl rfl (by kernel_rfl) rfl (fun He => RV.rq (rv_ung (.s rfl rfl rfl) rfl (q_ldc tc_80 (.n rfl) rfl rfl (fun _ => rfl) (by rfl)))) ?_
                refine qm_q (i := 29) (l := [.k 6, .o 23]) rfl rfl rfl rfl (by kernel_rfl) rfl (fun He => PV.rq (pv_ung (.s rfl rfl rfl) rfl (pv_mv (.n rfl) rfl rfl (fun _ => rfl)))) ?_
                refine qm_q (i := 30) (l := [.o 29, .o 23]) rfl rfl rfl rfl (by kernel_rfl) rfl (fun He => PV.rq (pv_ung (.s rfl rfl rfl) rfl (pv_nilp (.n rfl) rfl rfl (fun _ => rfl)))) ?_
                refine qm_q (i := 31) (l := [.o 30, .o 23]) rfl rfl rfl rfl (by kernel_rfl) rfl (fun He => PV.rq (pv_ung (.s rfl rfl rfl) rfl (pv_fa fa_84_0 (.n rfl) rfl rfl (fun _ => rfl)))) ?_
                refine qm_q (i := 32) (l := [.o 31, .o 23]) rfl rfl rfl rfl (by kernel_rfl) rfl (fun He => RV.rq (rv_ung (.s rfl rfl rfl) rfl (q_ldc tc_80 (.n rfl) rfl rfl (fun _ => rfl) (by rfl)))) ?_
                refine qm_calln (i := 28) [.o 27, .o 23] (by kernel_rfl) (by kernel_rfl) rfl rfl rfl rfl (by kernel_rfl) (by kernel_rfl) ⟨_, .s rfl rfl rfl, rfl⟩ cf_36 rfl (.c rfl .n) (broker_DueN _ bb t1.b hT1.b) fun m3 => ?_
                refine qm_cat ?_
                refine qm_rd m3 fun hrm3 => ?_
                refine qm_keep ?_
                refine qm_calln (i := 33) [.o 32, .o 23] (by kernel_rfl) (by kernel_rfl) rfl rfl rfl rfl (by kernel_rfl) (by kernel_rfl) ⟨_, .s rfl rfl rfl, rfl⟩ cf_36 rfl (.c rfl .n) (broker_DueN _ bb2 t1.b hT1.b) fun m4 => ?_
                refine qm_cat ?_
                refine qm_rd m4 fun hrm4 => ?_
                refine qm_keep ?_
                refine qm_q (i := 34) (l := [.o 28, .o 33, .o 23]) rfl rfl rfl rfl (by kernel_rfl) rfl (fun He => rq_ung (.s rfl rfl rfl) rfl (rq_call cf_34 (.n rfl) rfl (.c rfl (fun _ => rfl) (.c rfl (fun _ => rfl) .n)) (fun hg => fnv_tru (ref_SameMail _ _ m3 m4 (dueB t1.b) (dueB t1.b) hrm3.own hrm4.own (by have := hT1.b.due_len; omega))))) ?_
                refine qm_q (i := 35) (l := [.o 34, .o 23]) rfl rfl rfl rfl (by kernel_rfl) rfl (fun He => PV.rq (pv_ung (.s rfl rfl rfl) rfl (pv_not (.n rfl) rfl rfl (fun _ => rfl)))) ?_
                refine qm_q (i := 36) (l := [.o 23, .o 35]) rfl rfl rfl rfl (by kernel_rfl) rfl (fun He => PV.rq (pv_or (.n rfl) rfl rfl rfl (fun _ => ⟨rfl, fun hc => by first | rfl | (rw [hc]; rfl) | simp_all⟩))) ?_
                refine qm_n (by kernel_rfl) (by kernel_rfl) (by kernel_rfl) (by kernel_rfl) (.c 1 rfl (.c 4 rfl (.c 5 rfl (.c 6 rfl (.c 7 rfl (.c 83 rfl .n)))))) ?_
                refine r_cond _ rfl (fun h7 => ?_) (fun h7 => ?_)
                · simp at h7
                · skip
                  refine r_ent (townP_close (b := tb) (t := t1) bb c0 c1 c2 pb rfl) ?_
                  refine r_ent (townP_close (b := tc) (t := t1) bb2 d0 d1 d2 pb2 rfl) ?_
                  refine r_skip ?_
                  refine r_end ?_
                  refine r_region ?_
                  refine p_mv rfl rfl ?_
                  refine p_add rfl rfl (by omega) rfl ?_
                  refine p_as rfl rfl ?_
                  refine o_keep (.c 1 rfl (.c 4 rfl (.c 5 rfl (.c 6 rfl (.c 7 rfl .n))))) ?_
                  refine r_back_2 (i + 1) (t1) ?_ ?_ (Keep.app (.c 7 rfl .n) (.c 1 rfl (.c 4 rfl (.c 5 rfl (.c 6 rfl .n))))) ?_
                  · exact ⟨by omega, hT1⟩
                  · omega
                  · first | exact Ent.rfl | (repeat (first | exact Ent.rfl | refine Ent.c (SelB.ent) ?_ | refine Ent.c (SelS.ent) ?_ | refine Ent.cN ?_ | refine Ent.c (SelX.ent) ?_ | refine Ent.dropR ?_))
            · skip
              refine r_exit rfl ?_
              refine r_seq ?_
              refine r_sel (townP tb t) ?_
              refine r_town fun bb c0 c1 c2 pb => ?_
              refine r_cat ?_
              refine r_sel (townP tc t) ?_
              refine r_town fun bb2 d0 d1 d2 pb2 => ?_
              refine r_cat ?_
              refine r_plan _ [] mo (.c 5 rfl (.c 6 rfl .n)) Ent.rfl ?_
              refine qm_q (i := 0) (l := [.k 5]) rfl rfl rfl rfl (by kernel_rfl) rfl (fun He => PV.rq (pv_mv (.n rfl) rfl rfl (fun _ => rfl))) ?_
              refine qm_q (i := 1) (l := [.o 0]) rfl rfl rfl rfl (by kernel_rfl) rfl (fun He => PV.rq (pv_nilp (.n rfl) rfl rfl (fun _ => rfl))) ?_
              refine qm_q (i := 2) (l := [.o 1]) rfl rfl rfl rfl (by kernel_rfl) rfl (fun He => PV.rq (pv_fa fa_84_0 (.n rfl) rfl rfl (fun _ => rfl))) ?_
              refine qm_q (i := 3) (l := [.o 2]) rfl rfl rfl rfl (by kernel_rfl) rfl (fun He => RV.rq (q_ldc tc_80 (.n rfl) rfl rfl (fun _ => rfl) (by rfl))) ?_
              refine qm_q (i := 5) (l := [.k 6]) rfl rfl rfl rfl (by kernel_rfl) rfl (fun He => PV.rq (pv_mv (.n rfl) rfl rfl (fun _ => rfl))) ?_
              refine qm_q (i := 6) (l := [.o 5]) rfl rfl rfl rfl (by kernel_rfl) rfl (fun He => PV.rq (pv_nilp (.n rfl) rfl rfl (fun _ => rfl))) ?_
              refine qm_q (i := 7) (l := [.o 6]) rfl rfl rfl rfl (by kernel_rfl) rfl (fun He => PV.rq (pv_fa fa_84_0 (.n rfl) rfl rfl (fun _ => rfl))) ?_
              refine qm_q (i := 8) (l := [.o 7]) rfl rfl rfl rfl (by kernel_rfl) rfl (fun He => RV.rq (q_ldc tc_80 (.n rfl) rfl rfl (fun _ => rfl) (by rfl))) ?_
              refine qm_calln (i := 4) [.o 3] (by kernel_rfl) (by kernel_rfl) rfl rfl rfl rfl (by kernel_rfl) (by kernel_rfl) ⟨_, .n rfl, rfl⟩ cf_38 rfl (.c rfl .n) (broker_DoneN _ bb t.b hT.b (by have := hT.b.ord_le; omega)) fun o1 => ?_
              refine qm_cat ?_
              refine qm_rd o1 fun hro1 => ?_
              refine qm_keep ?_
              refine qm_calln (i := 9) [.o 8] (by kernel_rfl) (by kernel_rfl) rfl rfl rfl rfl (by kernel_rfl) (by kernel_rfl) ⟨_, .n rfl, rfl⟩ cf_38 rfl (.c rfl .n) (broker_DoneN _ bb2 t.b hT.b (by have := hT.b.ord_le; omega)) fun o2 => ?_
              refine qm_cat ?_
              refine qm_rd o2 fun hro2 => ?_
              refine qm_keep ?_
              refine qm_q (i := 10) (l := [.o 4, .o 9]) rfl rfl rfl rfl (by kernel_rfl) rfl (fun He => rq_call cf_37 (.n rfl) rfl (.c rfl (fun _ => rfl) (.c rfl (fun _ => rfl) .n)) (fun hg => ref_SameInts _ _ o1 o2 t.b.order t.b.order hro1.own hro2.own (by have := hT.b.ord_le; omega))) ?_
              refine qm_q (i := 11) (l := [.o 10]) rfl rfl rfl rfl (by kernel_rfl) rfl (fun He => PV.rq (pv_as (.n rfl) rfl rfl (fun _ => rfl))) ?_
              refine qm_n (by kernel_rfl) (by kernel_rfl) (by kernel_rfl) (by kernel_rfl) (.c 4 rfl .n) ?_
              refine r_retv hF rfl (.c (.t rfl) .n) ?_ ?_
              · first | exact Ent.rfl | (repeat (first | exact Ent.rfl | refine Ent.c (SelB.ent) ?_ | refine Ent.c (SelS.ent) ?_ | refine Ent.cN ?_ | refine Ent.c (SelX.ent) ?_ | refine Ent.dropR ?_))
              · first | rfl | exact bool_eq (by simp)

end Go.Proofs.Ytmakdilmibjpbac
