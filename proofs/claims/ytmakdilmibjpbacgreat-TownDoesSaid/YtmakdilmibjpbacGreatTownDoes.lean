/- The walks of TownDoes: written by a program of ours (gen.py) over the engine. -/
import Derived.Test.YtmakdilmibjpbacGreatPlain
import Derived.Test.YtmakdilmibjpbacGreatFacts
import Derived.Test.YtmakdilmibjpbacGreatMarkW3
namespace Go.Proofs.YtmakdilmibjpbacGreat
open Go Go.RowKit
set_option linter.unusedVariables false
set_option linter.unusedSimpArgs false
set_option maxRecDepth 20000

theorem law_TownDoes (M : Amb) (H : List HP) (ws : List Int) (hws : ws.length = 6) (xs : List TStep) (sv : Value) (hs : Rd M [] sv 3 (xs.map rTS)) (hx : ∀ x ∈ xs, Rd M [] x.wv 2 (x.wants.map rW)) : FnV Tryz.prog M H 3 [.agg (ws.map vI).toArray, sv] (.bool true) := by
 refine fn_intro Tryz.func3 rfl Tryz.ntmps3 rfl fun F hF => ?_
 refine r_sr (p_box rfl rfl rfl fun b2 => ?_)
 refine p_as rfl rfl (o_keep (.c 1 rfl (.c 2 rfl (.c 4 rfl .n))) (r_seq (r_sr ?_)))
 refine p_callv cf_4 (.n) rfl (law_townBegun _ _) ?_
 refine p_not rfl rfl (o_keep (.c 1 rfl (.c 2 rfl (.c 4 rfl (.c 13 rfl .n)))) (r_cond _ rfl (fun h1 => ?_) (fun h1 => ?_)))
 ·simp at h1
 ·skip
  refine r_skip (r_seq (r_sr (p_mv rfl rfl ?_)))
  refine p_callv cf_5 (.c rfl .n) rfl ((law_great _ xs sv hs hx).q) ?_
  refine o_keep (.c 1 rfl (.c 2 rfl (.c 4 rfl (.c 15 rfl .n)))) (r_cond _ rfl (fun h2 => ?_) (fun h2 => ?_))
  ·skip
   refine r_sr (p_as rfl rfl (o_keep (.c 1 rfl (.c 2 rfl (.c 4 rfl .n))) ?_))
   refine r_retv hF rfl (.c (.t rfl) .n) ?_ ?_
   ·repeat first|exact eR|refine eB ?_|refine eS ?_|refine eN ?_|refine eX ?_|refine eD ?_
   ·first | rfl | exact bool_eq (by simp)
  ·skip
   have hgr := great_no h2
   refine r_skip (r_seq ?_)
   rcases hn : newT ws with _ | t0
   ·skip
    refine r_plan _ [] mo (.c 1 rfl (.c 2 rfl (.c 4 rfl .n))) Ent.rfl ?_
    refine qr 0 [.k 2] rfl rfl rfl rfl (by kernel_rfl) rfl (fun He => q_lda ta_23 (.n rfl) rfl rfl (fun _ => rfl) (by exact (Tk.all (by first | rfl | assumption | (simp only [List.drop_zero, List.length_map]; assumption) | (simp [*]; done))))) ?_
    refine qr 2 [.k 2] rfl rfl rfl rfl (by kernel_rfl) rfl (fun He => q_lda ta_23 (.n rfl) rfl rfl (fun _ => rfl) (by exact (Tk.all (by first | rfl | assumption | (simp only [List.drop_zero, List.length_map]; assumption) | (simp [*]; done))))) ?_
    refine qm_callc (i := 1) [.o 0] (by kernel_rfl) (by kernel_rfl) rfl rfl rfl rfl (by kernel_rfl) (by kernel_rfl) ⟨_, .n rfl, rfl⟩ cf_6 rfl (.c rfl .n) (town_New_none _ ws hws hn) ?_
    refine qb_callc (i := 3) [.o 2] (by kernel_rfl) (by kernel_rfl) rfl rfl rfl rfl (by kernel_rfl) (by kernel_rfl) (by kernel_rfl) ⟨_, .n rfl, rfl⟩ cf_7 rfl (.c rfl .n) (market_New_none _ ws hws hn) ?_
    refine qp 4 [.o 1] rfl rfl rfl rfl (by kernel_rfl) rfl (u_as rfl rfl rfl) (qp 5 [.o 3] rfl rfl rfl rfl (by kernel_rfl) rfl (u_as rfl rfl rfl) ?_)
    refine qm_n (by kernel_rfl) (by kernel_rfl) (by kernel_rfl) (by kernel_rfl) (.c 1 rfl (.c 4 rfl (.c 5 rfl (.c 6 rfl .n)))) ?_
    refine r_seq (r_sr (p_mv rfl rfl (l_op (x_p (pv_peqn Tryz.underlying27 (.n rfl) rfl rfl rfl (fun _ => ⟨rfl, rfl⟩)) rfl rfl (p_mv rfl rfl (l_op (x_p (pv_mv (.s rfl rfl rfl) rfl rfl (by first | exact fun _ => rfl | exact id | exact fun h => (Bool.and_eq_true_iff.1 h).1 | simp_all)) rfl rfl ?_)))))))
    refine l_op (x_p (pv_peqn Tryz.underlying29 (.s rfl rfl rfl) rfl rfl rfl (by refine fun h => ⟨?_, ?_⟩ <;> first | rfl | exact h | exact (Bool.and_eq_true_iff.1 h).1 | simp_all)) rfl rfl ?_)
    refine l_op (x_p (pv_or (.n rfl) rfl rfl rfl (fun _ => ⟨rfl, fun hc => by first | rfl | (rw [hc]; rfl) | simp_all⟩)) rfl rfl ?_)
    refine o_keep (.c 1 rfl (.c 4 rfl (.c 5 rfl (.c 6 rfl (.c 25 rfl .n))))) (r_cond _ rfl (fun h3 => ?_) (fun h3 => ?_))
    ·skip
     refine r_sr (p_mv rfl rfl (l_op (x_p (pv_peqn Tryz.underlying27 (.n rfl) rfl rfl rfl (fun _ => ⟨rfl, rfl⟩)) rfl rfl (p_mv rfl rfl (l_op (x_p (pv_mv (.s rfl rfl rfl) rfl rfl (by first | exact fun _ => rfl | exact id | exact fun h => (Bool.and_eq_true_iff.1 h).1 | simp_all)) rfl rfl ?_))))))
     refine l_op (x_p (pv_peqn Tryz.underlying29 (.s rfl rfl rfl) rfl rfl rfl (by refine fun h => ⟨?_, ?_⟩ <;> first | rfl | exact h | exact (Bool.and_eq_true_iff.1 h).1 | simp_all)) rfl rfl ?_)
     refine l_op (x_p (pv_and (.n rfl) rfl rfl rfl (fun _ => ⟨rfl, fun hc => by first | rfl | (rw [hc]; rfl) | simp_all⟩)) rfl rfl ?_)
     refine p_as rfl rfl (o_keep (.c 1 rfl (.c 4 rfl (.c 5 rfl (.c 6 rfl .n)))) ?_)
     refine r_retv hF rfl (.c (.t rfl) .n) ?_ ?_
     ·repeat first|exact eR|refine eB ?_|refine eS ?_|refine eN ?_|refine eX ?_|refine eD ?_
     ·first | rfl | exact bool_eq (by simp)
    ·simp at h3
   ·skip
    refine r_plan _ [] mo (.c 1 rfl (.c 2 rfl (.c 4 rfl .n))) Ent.rfl ?_
    refine qr 0 [.k 2] rfl rfl rfl rfl (by kernel_rfl) rfl (fun He => q_lda ta_23 (.n rfl) rfl rfl (fun _ => rfl) (by exact (Tk.all (by first | rfl | assumption | (simp only [List.drop_zero, List.length_map]; assumption) | (simp [*]; done))))) ?_
    refine qr 2 [.k 2] rfl rfl rfl rfl (by kernel_rfl) rfl (fun He => q_lda ta_23 (.n rfl) rfl rfl (fun _ => rfl) (by exact (Tk.all (by first | rfl | assumption | (simp only [List.drop_zero, List.length_map]; assumption) | (simp [*]; done))))) ?_
    refine qm_calle (i := 1) [.o 0] (by kernel_rfl) (by kernel_rfl) rfl rfl rfl rfl (by kernel_rfl) (by kernel_rfl) ⟨_, .n rfl, rfl⟩ cf_6 rfl (.c rfl .n) (town_New_some _ ws hws hn) fun tb => ?_
    refine qm_cat ?_
    refine qb_calle (i := 3) [.o 2] (by kernel_rfl) (by kernel_rfl) rfl rfl rfl rfl (by kernel_rfl) (by kernel_rfl) (by kernel_rfl) ⟨_, .n rfl, rfl⟩ cf_7 rfl (.c rfl .n) (market_New_some _ ws hws hn) fun mb => ?_
    refine qm_cat ?_
    refine qp 4 [.o 1] rfl rfl rfl rfl (by kernel_rfl) rfl (u_as rfl rfl rfl) (qp 5 [.o 3] rfl rfl rfl rfl (by kernel_rfl) rfl (u_as rfl rfl rfl) ?_)
    refine qm_n (by kernel_rfl) (by kernel_rfl) (by kernel_rfl) (by kernel_rfl) (.c 1 rfl (.c 4 rfl (.c 5 rfl (.c 6 rfl .n)))) ?_
    refine r_seq (r_sr (p_mv rfl rfl (l_op (x_p (pv_peqn Tryz.underlying27 (.n rfl) rfl rfl rfl (fun _ => ⟨rfl, rfl⟩)) rfl rfl (p_mv rfl rfl (l_op (x_p (pv_mv (.s rfl rfl rfl) rfl rfl (by first | exact fun _ => rfl | exact id | exact fun h => (Bool.and_eq_true_iff.1 h).1 | simp_all)) rfl rfl ?_)))))))
    refine l_op (x_p (pv_peqn Tryz.underlying29 (.s rfl rfl rfl) rfl rfl rfl (by refine fun h => ⟨?_, ?_⟩ <;> first | rfl | exact h | exact (Bool.and_eq_true_iff.1 h).1 | simp_all)) rfl rfl ?_)
    refine l_op (x_p (pv_or (.n rfl) rfl rfl rfl (fun _ => ⟨rfl, fun hc => by first | rfl | (rw [hc]; rfl) | simp_all⟩)) rfl rfl ?_)
    refine o_keep (.c 1 rfl (.c 4 rfl (.c 5 rfl (.c 6 rfl (.c 25 rfl .n))))) (r_cond _ rfl (fun h4 => ?_) (fun h4 => ?_))
    ·simp at h4
    ·skip
     refine r_skip (r_seq (r_sr (p_as rfl rfl (o_keep (.c 1 rfl (.c 4 rfl (.c 5 rfl (.c 6 rfl (.c 7 rfl .n))))) (r_block ?_)))))
     refine r_loop_2 (fun (i : Nat) (t : TownS) => [(7, true, .int .i64 (i : Int))]) (.c 1 rfl (.c 4 rfl (.c 5 rfl (.c 6 rfl .n)))) (fun (i : Nat) (t : TownS) => townP tb t :: marketP mb t :: blk b2 (ws.map vI) 23 :: H) (fun (i : Nat) (t : TownS) => i ≤ xs.length ∧ TInv t) (fun (i : Nat) (t : TownS) => xs.length - i) (0) (t0) ?_ (.c 7 rfl .n) ?_ (fun i t hI => ?_)
     ·exact ⟨Nat.zero_le _, (TInv.new hws hn).1⟩
     ·repeat first|exact eR|refine eB ?_|refine eS ?_|refine eN ?_|refine eX ?_|refine eD ?_
     ·skip
      obtain ⟨hil, hT⟩ := hI
      refine r_seq (r_sr (p_mv rfl rfl (p_mv rfl rfl (l_op (x_p (pv_lens hs.len ⟨_, Tryz.underlying24⟩ (.n rfl) rfl rfl rfl rfl (fun _ => rfl)) rfl rfl (p_lss rfl rfl rfl (o_keep (.c 1 rfl (.c 4 rfl (.c 5 rfl (.c 6 rfl (.c 7 rfl (.c 35 rfl .n)))))) (r_cond _ rfl (fun h5 => ?_) (fun h5 => ?_)))))))))
      ·skip
       obtain ⟨x, hxi⟩ := getlt (l := xs) (i := i) (by have := of_decide_eq_true h5; omega)
       have hil2 := (List.getElem?_eq_some_iff.1 hxi).1
       have hxm := List.mem_of_getElem? hxi
       have hxr := hx x hxm
       have hxw := hgr.2 x hxm
       obtain ⟨t1, n1, hst⟩ := step_ex t x.s
       have hT1 := step_inv hT hst
       refine r_skip (r_seq (r_block (r_seq ?_)))
       refine r_plan (_) ([townP tb t, marketP mb t]) mo (.c 1 rfl (.c 4 rfl (.c 5 rfl (.c 6 rfl (.c 7 rfl .n))))) (Ent.c (SelX.ent) (SelX.ent)) ?_
       refine qp 0 [.k 5] rfl rfl rfl rfl (by kernel_rfl) rfl (u_mv rfl rfl rfl) (qp 1 [.k 1] rfl rfl rfl rfl (by kernel_rfl) rfl (u_mv rfl rfl rfl) (qp 2 [.k 7] rfl rfl rfl rfl (by kernel_rfl) rfl (u_mv rfl rfl rfl) (qp 3 [.o 1, .o 2] rfl rfl rfl rfl (by kernel_rfl) rfl (pv_idx Tryz.underlying24 (.ofA ta_34) hs (fun hg => ⟨rfl, (mapget hxi)⟩) (.n rfl) rfl rfl rfl (fun _ => ⟨rfl, rfl⟩)) ?_)))
       refine qr 4 [.o 3] rfl rfl rfl rfl (by kernel_rfl) rfl (fun He => rv_ldats (j := 0) ta_34 (Rd.ent hs (by repeat (first | exact Ent.rfl | exact Ent.one Ent.h | exact Ent.one (SelS.ent) | exact Ent.nil | exact Ent.left | refine Ent.dropR ?_ | refine Ent.tr Ent.skip ?_))) (fun hg => (mapget hxi)) (.n rfl) rfl rfl (fun _ => rfl) rfl (.s (.s (.s .z)))) ?_
       refine qp 6 [.k 6] rfl rfl rfl rfl (by kernel_rfl) rfl (u_mv rfl rfl rfl) (qp 7 [.k 1] rfl rfl rfl rfl (by kernel_rfl) rfl (u_mv rfl rfl rfl) (qp 8 [.k 7] rfl rfl rfl rfl (by kernel_rfl) rfl (u_mv rfl rfl rfl) (qp 9 [.o 7, .o 8] rfl rfl rfl rfl (by kernel_rfl) rfl (pv_idx Tryz.underlying24 (.ofA ta_34) hs (fun hg => ⟨rfl, (mapget hxi)⟩) (.n rfl) rfl rfl rfl (fun _ => ⟨rfl, rfl⟩)) ?_)))
       refine qr 10 [.o 9] rfl rfl rfl rfl (by kernel_rfl) rfl (fun He => rv_ldats (j := 0) ta_34 (Rd.ent hs (by repeat (first | exact Ent.rfl | exact Ent.one Ent.h | exact Ent.one (SelS.ent) | exact Ent.nil | exact Ent.left | refine Ent.dropR ?_ | refine Ent.tr Ent.skip ?_))) (fun hg => (mapget hxi)) (.n rfl) rfl rfl (fun _ => rfl) rfl (.s (.s (.s .z)))) ?_
       refine qm_callc (i := 5) [.o 0, .o 4] (by kernel_rfl) (by kernel_rfl) rfl rfl rfl rfl (by kernel_rfl) (by kernel_rfl) ⟨_, .n rfl, rfl⟩ cf_8 rfl (.c rfl (.c rfl .n)) (town_StepC _ tb t hT x hst hxr (by omega)) ?_
       refine qm_callc (i := 11) [.o 6, .o 10] (by kernel_rfl) (by kernel_rfl) rfl rfl rfl rfl (by kernel_rfl) (by kernel_rfl) ⟨_, .n rfl, rfl⟩ cf_9 rfl (.c rfl (.c rfl .n)) (market_StepC _ mb t hT x hst hxr (by omega)) ?_
       refine qm_keep ?_
       refine qm_keep ?_
       refine qp 12 [.o 5, .o 11] rfl rfl rfl rfl (by kernel_rfl) rfl (pv_to (pv_neq (.n rfl) rfl rfl rfl (fun _ => ⟨rfl, rfl⟩)) (show _ = Value.bool false by simp)) (qp 13 [.o 12] rfl rfl rfl rfl (by kernel_rfl) rfl (u_mv rfl rfl rfl) ?_)
       refine qp 14 [.k 7, .o 13] rfl rfl rfl rfl (by kernel_rfl) rfl (pv_mv (.s rfl rfl rfl) rfl rfl (by first | exact fun _ => rfl | exact id | exact fun h => (Bool.and_eq_true_iff.1 h).1 | simp_all)) ?_
       refine qp 15 [.o 14, .o 13] rfl rfl rfl rfl (by kernel_rfl) rfl (pv_rem (by intro hg; simp at hg; omega) (.s rfl rfl rfl) rfl rfl rfl (by refine fun h => ⟨?_, ?_⟩ <;> first | rfl | exact h | exact (Bool.and_eq_true_iff.1 h).1 | simp_all)) ?_
       refine qp 16 [.o 15, .o 13] rfl rfl rfl rfl (by kernel_rfl) rfl (pv_eql (.s rfl rfl rfl) rfl rfl rfl (by refine fun h => ⟨?_, ?_⟩ <;> first | rfl | exact h | exact (Bool.and_eq_true_iff.1 h).1 | simp_all)) ?_
       refine qp 17 [.o 16, .o 13] rfl rfl rfl rfl (by kernel_rfl) rfl (pv_mv (.s rfl rfl rfl) rfl rfl (by first | exact fun _ => rfl | exact id | exact fun h => (Bool.and_eq_true_iff.1 h).1 | simp_all)) (qp 18 [.k 5, .o 17] rfl rfl rfl rfl (by kernel_rfl) rfl (pv_mv (.s rfl rfl rfl) rfl rfl (by first | exact fun _ => rfl | exact id | exact fun h => (Bool.and_eq_true_iff.1 h).1 | simp_all)) ?_)
       refine qp 19 [.k 6, .o 17] rfl rfl rfl rfl (by kernel_rfl) rfl (pv_mv (.s rfl rfl rfl) rfl rfl (by first | exact fun _ => rfl | exact id | exact fun h => (Bool.and_eq_true_iff.1 h).1 | simp_all)) ?_
       refine qm_q (i := 20) (l := [.o 18, .o 19, .o 17]) rfl rfl rfl rfl (by kernel_rfl) rfl (fun He => rq_call cf_10 (.s rfl rfl rfl) rfl (.c rfl (by first | exact fun _ => rfl | exact id | exact fun h => (Bool.and_eq_true_iff.1 h).1 | simp_all) (.c rfl (by first | exact fun _ => rfl | exact id | exact fun h => (Bool.and_eq_true_iff.1 h).1 | simp_all) .n)) (fun hg => (law_sameTown _ tb mb t1 hT1).q)) ?_
       refine qp 21 [.o 20, .o 17] rfl rfl rfl rfl (by kernel_rfl) rfl (pv_not (.s rfl rfl rfl) rfl rfl (by first | exact fun _ => rfl | exact id | exact fun h => (Bool.and_eq_true_iff.1 h).1 | simp_all)) ?_
       refine qp 22 [.o 17, .o 21, .o 13] rfl rfl rfl rfl (by kernel_rfl) rfl (pv_and (.s rfl rfl rfl) rfl rfl rfl (by intro hg; refine ⟨?_, fun hc => ?_⟩ <;> first | rfl | (rw [hc]; rfl) | simp_all)) ?_
       refine qp 23 [.o 13, .o 22] rfl rfl rfl rfl (by kernel_rfl) rfl (pv_or (.n rfl) rfl rfl rfl (fun _ => ⟨rfl, fun hc => by first | rfl | (rw [hc]; rfl) | simp_all⟩)) ?_
       refine qm_n (by kernel_rfl) (by kernel_rfl) (by kernel_rfl) (by kernel_rfl) (.c 1 rfl (.c 4 rfl (.c 5 rfl (.c 6 rfl (.c 7 rfl (.c 61 rfl .n)))))) ?_
       refine r_cond _ rfl (fun h6 => ?_) (fun h6 => ?_)
       ·simp at h6
       ·skip
        refine r_skip (r_end (r_region (p_mv rfl rfl (p_add rfl rfl (by omega) rfl (p_as rfl rfl (o_keep (.c 1 rfl (.c 4 rfl (.c 5 rfl (.c 6 rfl (.c 7 rfl .n))))) ?_))))))
        refine r_back_2 (i + 1) (t1) ?_ ?_ (Keep.app (.c 7 rfl .n) (.c 1 rfl (.c 4 rfl (.c 5 rfl (.c 6 rfl .n))))) ?_
        ·exact ⟨by omega, hT1⟩
        ·omega
        ·repeat first|exact eR|refine eB ?_|refine eS ?_|refine eN ?_|refine eX ?_|refine eD ?_
      ·skip
       refine r_exit rfl (r_seq ?_)
       have hs6 : (serialT t).1.length = 6 := by rw [hT.ser]; simp
       refine r_region (p_mv rfl rfl ?_)
       refine p_callv cf_11 (.c rfl .n) rfl ((town_Serial _ tb t hT).q) ?_
       refine p_mv rfl rfl (p_ext rfl rfl rfl (p_ext rfl rfl rfl (p_alloc zr_23 rfl fun b8 => ?_)))
       refine p_store (.ofA ta_23) rfl rfl rfl (by first | rfl | exact (by first | rfl | assumption | (simp only [List.drop_zero, List.length_map]; assumption) | (simp [*]; done))) (by first | rfl | exact (by first | rfl | simp [vI, Value.oneCell'])) (Ins.whole (by first | rfl | (simp only [List.length_map, List.length_cons, List.length_nil]; omega) | (simp [*]; done) | (simp [*]; rfl))) ?_
       refine p_as rfl rfl (o_keep (.c 4 rfl (.c 5 rfl (.c 6 rfl (.c 8 rfl (.c 9 rfl .n))))) (r_sr (p_mv rfl rfl ?_)))
       refine p_callv cf_12 (.c rfl .n) rfl ((market_Serial _ mb t hT).q) ?_
       refine p_mv rfl rfl (p_ext rfl rfl rfl (p_ext rfl rfl rfl (p_alloc zr_23 rfl fun b10 => ?_)))
       refine p_store (.ofA ta_23) rfl rfl rfl (by first | rfl | exact (by first | rfl | assumption | (simp only [List.drop_zero, List.length_map]; assumption) | (simp [*]; done))) (by first | rfl | exact (by first | rfl | simp [vI, Value.oneCell'])) (Ins.whole (by first | rfl | (simp only [List.length_map, List.length_cons, List.length_nil]; omega) | (simp [*]; done) | (simp [*]; rfl))) ?_
       refine p_as rfl rfl (o_keep (.c 4 rfl (.c 5 rfl (.c 6 rfl (.c 8 rfl (.c 9 rfl (.c 10 rfl (.c 11 rfl .n))))))) (r_seq ?_))
       have hC := hT.calmI
       refine r_region (p_mv rfl rfl (p_mv rfl rfl ?_))
       refine p_callv cf_10 (.c rfl (.c rfl .n)) rfl ((law_sameTown _ tb mb t hT).q) ?_
       refine p_mv rfl rfl ?_
       refine o_split (t := 75) rfl (fun g7 => ?_) (fun g7 => ?_)
       ·skip
        refine o_g (.s rfl rfl rfl) rfl ?_
        refine p_lda ta_23 rfl (by exact (Tk.all (by first | rfl | assumption | (simp only [List.drop_zero, List.length_map]; assumption) | (simp [*]; done)))) rfl ?_
        refine o_g (.s rfl rfl rfl) rfl ?_
        refine p_lda ta_23 rfl (by exact (Tk.all (by first | rfl | assumption | (simp only [List.drop_zero, List.length_map]; assumption) | (simp [*]; done)))) rfl ?_
        refine o_g (.s rfl rfl rfl) rfl (l_op (x_p (pv_to (pv_aeq (eq_World hs6 hs6) (.n rfl) rfl rfl rfl (fun _ => ⟨rfl, rfl⟩)) (show _ = Value.bool true by simp)) rfl rfl ?_))
        refine l_op (x_p (pv_and (.n rfl) rfl rfl rfl (fun _ => ⟨rfl, fun hc => by first | rfl | (rw [hc]; rfl) | simp_all⟩)) rfl rfl ?_)
        refine p_mv rfl rfl ?_
        refine o_split (t := 80) rfl (fun g8 => ?_) (fun g8 => ?_)
        ·skip
         refine o_g (.s rfl rfl rfl) rfl (p_mv rfl rfl (o_g (.s rfl rfl rfl) rfl (p_mv rfl rfl (o_g (.s rfl rfl rfl) rfl (l_op (x_p (pv_to (pv_eql (.n rfl) rfl rfl rfl (fun _ => ⟨rfl, rfl⟩)) (show _ = Value.bool true by simp)) rfl rfl ?_))))))
         refine l_op (x_p (pv_and (.n rfl) rfl rfl rfl (fun _ => ⟨rfl, fun hc => by first | rfl | (rw [hc]; rfl) | simp_all⟩)) rfl rfl ?_)
         refine p_mv rfl rfl ?_
         refine o_split (t := 85) rfl (fun g9 => ?_) (fun g9 => ?_)
         ·skip
          refine o_g (.s rfl rfl rfl) rfl (p_mv rfl rfl (o_g (.s rfl rfl rfl) rfl ?_))
          refine p_callc cf_13 (.c rfl .n) rfl (town_Calm _ tb t hT) ?_
          refine o_g (.s rfl rfl rfl) rfl (p_mv rfl rfl (o_g (.s rfl rfl rfl) rfl ?_))
          refine p_callc cf_14 (.c rfl .n) rfl (market_Calm _ mb t hT) ?_
          refine o_g (.s rfl rfl rfl) rfl (l_op (x_p (pv_to (pv_eql (.n rfl) rfl rfl rfl (fun _ => ⟨rfl, rfl⟩)) (show _ = Value.bool true by simp)) rfl rfl ?_))
          refine l_op (x_p (pv_and (.n rfl) rfl rfl rfl (fun _ => ⟨rfl, fun hc => by first | rfl | (rw [hc]; rfl) | simp_all⟩)) rfl rfl ?_)
          refine p_mv rfl rfl ?_
          refine o_split (t := 92) rfl (fun g10 => ?_) (fun g10 => ?_)
          ·skip
           refine o_g (.s rfl rfl rfl) rfl (p_mv rfl rfl (o_g (.s rfl rfl rfl) rfl (p_mv rfl rfl (o_g (.s rfl rfl rfl) rfl ?_))))
           refine p_callv cf_10 (.c rfl (.c rfl .n)) rfl ((law_sameTown _ tb mb (calmT t).1 hC).q) ?_
           refine l_op (x_p (pv_and (.n rfl) rfl rfl rfl (fun _ => ⟨rfl, fun hc => by first | rfl | (rw [hc]; rfl) | simp_all⟩)) rfl rfl ?_)
           refine p_as rfl rfl (o_keep (.c 4 rfl .n) ?_)
           refine r_retv hF rfl (.c (.t rfl) .n) ?_ ?_
           ·repeat first|exact eR|refine eB ?_|refine eS ?_|refine eN ?_|refine eX ?_|refine eD ?_
           ·first | rfl | exact bool_eq (by simp)
          ·simp at g10
         ·simp at g9
        ·simp at g8
       ·simp at g7

end Go.Proofs.YtmakdilmibjpbacGreat
