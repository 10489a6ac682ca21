/- The walks of TownOne: written by a program of ours (gen.py) over the engine. -/
import Derived.Test.YtmakdilmibjpbacPlain
import Derived.Test.YtmakdilmibjpbacFacts
import Derived.Test.YtmakdilmibjpbacTownW
import Derived.Test.YtmakdilmibjpbacTones
namespace Go.Proofs.Ytmakdilmibjpbac
open Go Go.RowKit
set_option linter.unusedVariables false
set_option linter.unusedSimpArgs false
set_option maxRecDepth 20000

def bgT (t : TownS) (l : List Want) : TownS := { t with b := (beginB t.b l).1 }
theorem step_bg (t : TownS) (l : List Want) : stepT t ⟨1, 0, l⟩ = (bgT t l, (beginB t.b l).2.2) := stepT_1 rfl
theorem bg_no {t : TownS} {l : List Want} (h : (beginB t.b l).2.2 ≠ 0) : bgT t l = t := by
  unfold bgT
  have : (beginB t.b l).1 = t.b := by
    unfold beginB at h ⊢
    split
    · rfl
    · split
      · rfl
      · rename_i h1 h2; rw [if_neg h1, if_neg h2] at h; exact absurd rfl h
  rw [this]

theorem law_TownOne (M : Amb) (H : List HP) (ws : List Int) (hws : ws.length = 6) (xs : List TStep) (sv : Value) (hs : Rd M [] sv 3 (xs.map rTS)) (hx : ∀ x ∈ xs, Rd M [] x.wv 2 (x.wants.map rW)) (zv : Value) (zs : List Want) (hz : Rd M [] zv 2 (zs.map rW)) : FnV Try.prog M H 9 [.agg (ws.map vI).toArray, sv, zv] (.bool true) := by
  refine fn_intro Try.func9 rfl Try.ntmps9 rfl fun F hF => ?_
  refine r_seq ?_
  refine r_region ?_
  refine p_box rfl rfl rfl fun b3 => ?_
  refine p_as rfl rfl ?_
  refine o_keep (.c 1 rfl (.c 2 rfl (.c 3 rfl (.c 6 rfl .n)))) ?_
  refine r_seq ?_
  refine r_seq ?_
  refine r_region ?_
  refine p_callv cf_27 (.n) rfl (law_townBegun _ _) ?_
  refine p_not rfl rfl ?_
  refine o_keep (.c 1 rfl (.c 2 rfl (.c 3 rfl (.c 6 rfl (.c 14 rfl .n))))) ?_
  refine r_cond _ rfl (fun h1 => ?_) (fun h1 => ?_)
  · simp at h1
  · skip
    refine r_skip ?_
    refine r_seq ?_
    refine r_seq ?_
    refine r_region ?_
    refine p_mv rfl rfl ?_
    refine p_callv cf_28 (.c rfl .n) rfl ((law_great _ xs sv hs hx).q) ?_
    refine p_mv rfl rfl ?_
    refine l_op (x_p (pv_mv (.s rfl rfl rfl) rfl rfl (by first | exact fun _ => rfl | exact id | exact fun h => (Bool.and_eq_true_iff.1 h).1 | simp_all)) rfl rfl ?_)
    refine l_op (x_p (pv_lens hz.len ⟨_, Try.underlying70⟩ (.s rfl rfl rfl) rfl rfl rfl rfl (by first | exact fun _ => rfl | exact id | exact fun h => (Bool.and_eq_true_iff.1 h).1 | simp_all)) rfl rfl ?_)
    refine l_op (x_p (pv_gtr (.s rfl rfl rfl) rfl rfl rfl (by refine fun h => ⟨?_, ?_⟩ <;> first | rfl | exact h | exact (Bool.and_eq_true_iff.1 h).1 | simp_all)) rfl rfl ?_)
    refine l_op (x_p (pv_or (.n rfl) rfl rfl rfl (fun _ => ⟨rfl, fun hc => by first | rfl | (rw [hc]; rfl) | simp_all⟩)) rfl rfl ?_)
    refine o_keep (.c 1 rfl (.c 2 rfl (.c 3 rfl (.c 6 rfl (.c 21 rfl .n))))) ?_
    refine r_cond _ rfl (fun h2 => ?_) (fun h2 => ?_)
    · skip
      refine r_seq ?_
      refine r_region ?_
      refine p_as rfl rfl ?_
      refine o_keep (.c 1 rfl (.c 2 rfl (.c 3 rfl (.c 6 rfl .n)))) ?_
      refine r_retv hF rfl (.c (.t rfl) .n) ?_ ?_
      · first | exact Ent.rfl | (repeat (first | exact Ent.rfl | refine Ent.c (SelB.ent) ?_ | refine Ent.c (SelS.ent) ?_ | refine Ent.cN ?_ | refine Ent.c (SelX.ent) ?_ | refine Ent.dropR ?_))
      · first | rfl | exact bool_eq (by simp)
    · skip
      have hgb : greatB xs = false ∧ zs.length ≤ 50 := by simp at h2; exact ⟨h2.1, by omega⟩
      have hgr := great_no hgb.1
      have hzl := hgb.2
      refine r_skip ?_
      refine r_seq ?_
      rcases hn : newT ws with _ | t0
      · skip
        refine r_region ?_
        refine p_lda ta_23 rfl (by exact (Tk.all (by first | rfl | assumption | (simp only [List.drop_zero, List.length_map]; assumption) | (simp [*]; done)))) rfl ?_
        refine p_callc cf_29 (.c rfl .n) rfl (town_New_none _ ws hws hn) ?_
        refine p_as rfl rfl ?_
        refine o_keep (.c 1 rfl (.c 2 rfl (.c 6 rfl (.c 7 rfl .n)))) ?_
        refine r_seq ?_
        refine r_seq ?_
        refine r_region ?_
        refine p_mv rfl rfl ?_
        refine l_op (x_p (pv_peqn Try.underlying68 (.n rfl) rfl rfl rfl (fun _ => ⟨rfl, rfl⟩)) rfl rfl ?_)
        refine o_keep (.c 1 rfl (.c 2 rfl (.c 6 rfl (.c 7 rfl (.c 25 rfl .n))))) ?_
        refine r_cond _ rfl (fun h3 => ?_) (fun h3 => ?_)
        · skip
          refine r_seq ?_
          refine r_region ?_
          refine p_as rfl rfl ?_
          refine o_keep (.c 1 rfl (.c 2 rfl (.c 6 rfl (.c 7 rfl .n)))) ?_
          refine r_retv hF rfl (.c (.t rfl) .n) ?_ ?_
          · first | exact Ent.rfl | (repeat (first | exact Ent.rfl | refine Ent.c (SelB.ent) ?_ | refine Ent.c (SelS.ent) ?_ | refine Ent.cN ?_ | refine Ent.c (SelX.ent) ?_ | refine Ent.dropR ?_))
          · first | rfl | exact bool_eq (by simp)
        · simp at h3
      · skip
        refine r_region ?_
        refine p_lda ta_23 rfl (by exact (Tk.all (by first | rfl | assumption | (simp only [List.drop_zero, List.length_map]; assumption) | (simp [*]; done)))) rfl ?_
        refine p_calle cf_29 (.c rfl .n) rfl (town_New_some _ ws hws hn) fun tb => ?_
        refine o_cat ?_
        refine p_as rfl rfl ?_
        refine o_keep (.c 1 rfl (.c 2 rfl (.c 6 rfl (.c 7 rfl .n)))) ?_
        refine r_seq ?_
        refine r_seq ?_
        refine r_region ?_
        refine p_mv rfl rfl ?_
        refine l_op (x_p (pv_peqn Try.underlying68 (.n rfl) rfl rfl rfl (fun _ => ⟨rfl, rfl⟩)) rfl rfl ?_)
        refine o_keep (.c 1 rfl (.c 2 rfl (.c 6 rfl (.c 7 rfl (.c 25 rfl .n))))) ?_
        refine r_cond _ rfl (fun h4 => ?_) (fun h4 => ?_)
        · simp at h4
        · skip
          refine r_skip ?_
          refine r_seq ?_
          refine r_seq ?_
          refine r_region ?_
          refine p_as rfl rfl ?_
          refine o_keep (.c 1 rfl (.c 2 rfl (.c 6 rfl (.c 7 rfl (.c 8 rfl .n))))) ?_
          refine r_block ?_
          refine r_loop_2 (fun (i : Nat) (t : TownS) => [(8, true, .int .i64 (i : Int))]) (.c 1 rfl (.c 2 rfl (.c 6 rfl (.c 7 rfl .n)))) (fun (i : Nat) (t : TownS) => townP tb t :: blk b3 (ws.map vI) 23 :: H) (fun (i : Nat) (t : TownS) => i ≤ xs.length ∧ TInv t) (fun (i : Nat) (t : TownS) => xs.length - i) (0) (t0) ?_ (.c 8 rfl .n) ?_ (fun i t hI => ?_)
          · exact ⟨Nat.zero_le _, (TInv.new hws hn).1⟩
          · first | exact Ent.rfl | (repeat (first | exact Ent.rfl | refine Ent.c (SelB.ent) ?_ | refine Ent.c (SelS.ent) ?_ | refine Ent.cN ?_ | refine Ent.c (SelX.ent) ?_ | refine Ent.dropR ?_))
          · skip
            obtain ⟨hil, hT⟩ := hI
            refine r_seq ?_
            refine r_seq ?_
            refine r_region ?_
            refine p_mv rfl rfl ?_
            refine p_mv rfl rfl ?_
            refine l_op (x_p (pv_lens hs.len ⟨_, Try.underlying66⟩ (.n rfl) rfl rfl rfl rfl (fun _ => rfl)) rfl rfl ?_)
            refine p_lss rfl rfl rfl ?_
            refine o_keep (.c 1 rfl (.c 2 rfl (.c 6 rfl (.c 7 rfl (.c 8 rfl (.c 29 rfl .n)))))) ?_
            refine r_cond _ rfl (fun h5 => ?_) (fun h5 => ?_)
            · skip
              obtain ⟨x, hxi⟩ := getlt (l := xs) (i := i) (by have := of_decide_eq_true h5; omega)
              have hil2 := (List.getElem?_eq_some_iff.1 hxi).1
              have hxm := List.mem_of_getElem? hxi
              have hxr := hx x hxm
              have hxw := hgr.2 x hxm
              refine r_skip ?_
              refine r_seq ?_
              refine r_block ?_
              refine r_region ?_
              refine p_mv rfl rfl ?_
              refine p_mv rfl rfl ?_
              refine p_mv rfl rfl ?_
              refine p_idx Try.underlying66 (.ofA ta_72) hs rfl (mapget hxi) rfl rfl rfl ?_
              refine p_ldats 0 ta_72 (Rd.ent hs (by repeat (first | exact Ent.rfl | exact Ent.one Ent.h | exact Ent.one (SelS.ent) | exact Ent.nil | exact Ent.left | refine Ent.dropR ?_ | refine Ent.tr Ent.skip ?_))) (mapget hxi) rfl rfl (.s (.s (.s .z))) rfl ?_
              refine o_ent (SelX.ent (X := townP tb t)) ?_
              refine p_call cf_31 (.c rfl (.c rfl .n)) rfl (town_Step _ _ tb t hT x hxr.all (by omega)) ?_
              rintro _ _ ⟨rfl, rfl⟩
              refine o_keep (.c 1 rfl (.c 2 rfl (.c 6 rfl (.c 7 rfl (.c 8 rfl .n))))) ?_
              refine r_end ?_
              refine r_region ?_
              refine p_mv rfl rfl ?_
              refine p_add rfl rfl (by omega) rfl ?_
              refine p_as rfl rfl ?_
              refine o_keep (.c 1 rfl (.c 2 rfl (.c 6 rfl (.c 7 rfl (.c 8 rfl .n))))) ?_
              refine r_back_2 (i + 1) ((stepT t x.s).1) ?_ ?_ (Keep.app (.c 8 rfl .n) (.c 1 rfl (.c 2 rfl (.c 6 rfl (.c 7 rfl .n))))) ?_
              · exact ⟨by omega, hT.step _⟩
              · omega
              · first | exact Ent.rfl | (repeat (first | exact Ent.rfl | refine Ent.c (SelB.ent) ?_ | refine Ent.c (SelS.ent) ?_ | refine Ent.cN ?_ | refine Ent.c (SelX.ent) ?_ | refine Ent.dropR ?_))
            · skip
              refine r_exit rfl ?_
              refine r_seq ?_
              refine r_region ?_
              refine p_mv rfl rfl ?_
              refine p_callc cf_32 (.c rfl .n) rfl (town_Calm _ tb t hT) ?_
              refine o_keep (.c 2 rfl (.c 6 rfl (.c 7 rfl .n))) ?_
              have hC := hT.calm.1
              generalize (calmT t).1 = u at hC ⊢
              have hw6 := worldT_len hC.inv.len
              have hal := applyL_len (ws := worldT u) (l := zs) hw6
              refine r_sel (townP tb u) ?_
              refine r_town fun bb c0 c1 c2 pb => ?_
              refine r_cat ?_
              refine r_seq ?_
              refine r_plan _ [] mo (.c 2 rfl (.c 6 rfl (.c 7 rfl .n))) Ent.rfl ?_
              refine qm_q (i := 0) (l := [.k 7]) rfl rfl rfl rfl (by kernel_rfl) rfl (fun He => PV.rq (pv_mv (.n rfl) rfl rfl (fun _ => rfl))) ?_
              refine qm_q (i := 1) (l := [.o 0]) rfl rfl rfl rfl (by kernel_rfl) rfl (fun He => rq_call cf_33 (.n rfl) rfl (.c rfl (fun _ => rfl) .n) (fun hg => (town_World_o _ tb u bb c0 c1 c2 pb hC.inv).q)) ?_
              refine qm_q (i := 2) (l := [.k 7]) rfl rfl rfl rfl (by kernel_rfl) rfl (fun He => PV.rq (pv_mv (.n rfl) rfl rfl (fun _ => rfl))) ?_
              refine qm_q (i := 3) (l := [.o 2]) rfl rfl rfl rfl (by kernel_rfl) rfl (fun He => PV.rq (pv_nilp (.n rfl) rfl rfl (fun _ => rfl))) ?_
              refine qm_q (i := 4) (l := [.o 3]) rfl rfl rfl rfl (by kernel_rfl) rfl (fun He => PV.rq (pv_fa fa_84_0 (.n rfl) rfl rfl (fun _ => rfl))) ?_
              refine qm_q (i := 5) (l := [.o 4]) rfl rfl rfl rfl (by kernel_rfl) rfl (fun He => RV.rq (q_ldc tc_80 (.n rfl) rfl rfl (fun _ => rfl) (by rfl))) ?_
              refine qm_q (i := 6) (l := [.o 5]) rfl rfl rfl rfl (by kernel_rfl) rfl (fun He => rq_call cf_39 (.n rfl) rfl (.c rfl (fun _ => rfl) .n) (fun hg => (broker_Len _ bb u.b hC.inv.b).q)) ?_
              refine qm_alloc zr_23 (i := 7) [] (by kernel_rfl) (by kernel_rfl) rfl rfl rfl rfl (by kernel_rfl) (by kernel_rfl) ⟨_, .n rfl, rfl⟩ rfl fun b9 => ?_
              refine qb_store (.ofA ta_23) (i := 8) [.o 7, .o 1] (by kernel_rfl) (by kernel_rfl) rfl rfl rfl (by kernel_rfl) (by kernel_rfl) (by kernel_rfl) ⟨_, .n rfl, rfl⟩ rfl rfl rfl rfl (by first | rfl | exact (by first | rfl | assumption | (simp only [List.drop_zero, List.length_map]; assumption) | (simp [*]; done))) (by first | rfl | exact (by first | rfl | simp [vI, Value.oneCell'])) (Ins.whole (by first | rfl | (simp only [List.length_map, List.length_cons, List.length_nil]; omega) | (simp [*]; done) | (simp [*]; rfl))) ?_
              refine qm_q (i := 9) (l := [.o 6]) rfl rfl rfl rfl (by kernel_rfl) rfl (fun He => PV.rq (pv_as (.n rfl) rfl rfl (fun _ => rfl))) ?_
              refine qm_n (by kernel_rfl) (by kernel_rfl) (by kernel_rfl) (by kernel_rfl) (.c 2 rfl (.c 6 rfl (.c 7 rfl (.c 9 rfl (.c 10 rfl .n))))) ?_
              refine r_seq ?_
              refine r_seq ?_
              refine r_ent (townP_close (b := tb) (t := u) bb c0 c1 c2 pb rfl) ?_
              refine r_region ?_
              refine p_mv rfl rfl ?_
              refine p_mv rfl rfl ?_
              refine p_build zr_72 pl_72 (.c rfl (fun _ => rfl) rfl rfl rfl (by repeat constructor) (.c rfl (fun _ => rfl) rfl hz.c1 rfl (by repeat constructor) .n)) rfl ?_
              refine p_callc cf_31 (.c rfl (.c rfl .n)) rfl (town_StepC _ tb u hC.inv ⟨1, 0, zv, zs⟩ (step_bg u zs) hz (show zs.length ≤ 1000 by omega)) ?_
              refine p_neq rfl rfl rfl ?_
              refine o_keep (.c 2 rfl (.c 6 rfl (.c 7 rfl (.c 9 rfl (.c 10 rfl (.c 51 rfl .n)))))) ?_
              refine r_cond _ rfl (fun h6 => ?_) (fun h6 => ?_)
              · skip
                have hbu : bgT u zs = u := bg_no (by simpa using h6)
                refine r_seq ?_
                rw [hbu]
                refine r_sel (townP tb u) ?_
                refine r_town fun bb c0 c1 c2 pb => ?_
                refine r_cat ?_
                refine r_plan _ [] mo (.c 2 rfl (.c 7 rfl (.c 9 rfl (.c 10 rfl .n)))) Ent.rfl ?_
                refine qm_q (i := 0) (l := [.k 7]) rfl rfl rfl rfl (by kernel_rfl) rfl (fun He => PV.rq (pv_mv (.n rfl) rfl rfl (fun _ => rfl))) ?_
                refine qm_q (i := 1) (l := [.o 0]) rfl rfl rfl rfl (by kernel_rfl) rfl (fun He => rq_call cf_33 (.n rfl) rfl (.c rfl (fun _ => rfl) .n) (fun hg => (town_World_o _ tb u bb c0 c1 c2 pb hC.inv).q)) ?_
                refine qm_q (i := 2) (l := [.k 9]) rfl rfl rfl rfl (by kernel_rfl) rfl (fun He => RV.rq (q_lda ta_23 (.n rfl) rfl rfl (fun _ => rfl) (by exact (Tk.all (by first | rfl | assumption | (simp only [List.drop_zero, List.length_map]; assumption) | (simp [*]; done)))))) ?_
                refine qm_q (i := 3) (l := [.o 1, .o 2]) rfl rfl rfl rfl (by kernel_rfl) rfl (fun He => PV.rq (pv_to (pv_aeq (eq_World hw6 hw6) (.n rfl) rfl rfl rfl (fun _ => ⟨rfl, rfl⟩)) (show _ = Value.bool true by simp))) ?_
                refine qm_q (i := 4) (l := [.o 3]) rfl rfl rfl rfl (by kernel_rfl) rfl (fun He => PV.rq (pv_mv (.n rfl) rfl rfl (fun _ => rfl))) ?_
                refine qm_q (i := 5) (l := [.k 7, .o 4]) rfl rfl rfl rfl (by kernel_rfl) rfl (fun He => PV.rq (pv_ung (.s rfl rfl rfl) rfl (pv_mv (.n rfl) rfl rfl (fun _ => rfl)))) ?_
                refine qm_q (i := 6) (l := [.o 5, .o 4]) rfl rfl rfl rfl (by kernel_rfl) rfl (fun He => PV.rq (pv_ung (.s rfl rfl rfl) rfl (pv_nilp (.n rfl) rfl rfl (fun _ => rfl)))) ?_
                refine qm_q (i := 7) (l := [.o 6, .o 4]) rfl rfl rfl rfl (by kernel_rfl) rfl (fun He => PV.rq (pv_ung (.s rfl rfl rfl) rfl (pv_fa fa_84_0 (.n rfl) rfl rfl (fun _ => rfl)))) ?_
                refine qm_q (i := 8) (l := [.o 7, .o 4]) rfl rfl rfl rfl (by kernel_rfl) rfl (fun He => RV.rq (rv_ung (.s rfl rfl rfl) rfl (q_ldc tc_80 (.n rfl) rfl rfl (fun _ => rfl) (by rfl)))) ?_
                refine qm_q (i := 9) (l := [.o 8, .o 4]) rfl rfl rfl rfl (by kernel_rfl) rfl (fun He => rq_ung (.s rfl rfl rfl) rfl (rq_call cf_39 (.n rfl) rfl (.c rfl (fun _ => rfl) .n) (fun hg => (broker_Len _ bb u.b hC.inv.b).q))) ?_
                refine qm_q (i := 10) (l := [.k 10, .o 4]) rfl rfl rfl rfl (by kernel_rfl) rfl (fun He => PV.rq (pv_ung (.s rfl rfl rfl) rfl (pv_mv (.n rfl) rfl rfl (fun _ => rfl)))) ?_
                refine qm_q (i := 11) (l := [.o 9, .o 10, .o 4]) rfl rfl rfl rfl (by kernel_rfl) rfl (fun He => PV.rq (pv_ung (.s rfl rfl rfl) rfl (pv_eql (.n rfl) rfl rfl rfl (fun _ => ⟨rfl, rfl⟩)))) ?_
                refine qm_q (i := 12) (l := [.o 4, .o 11]) rfl rfl rfl rfl (by kernel_rfl) rfl (fun He => PV.rq (pv_and (.n rfl) rfl rfl rfl (fun _ => ⟨rfl, fun hc => by first | rfl | (rw [hc]; rfl) | simp_all⟩))) ?_
                refine qm_q (i := 13) (l := [.o 12]) rfl rfl rfl rfl (by kernel_rfl) rfl (fun He => PV.rq (pv_as (.n rfl) rfl rfl (fun _ => rfl))) ?_
                refine qm_n (by kernel_rfl) (by kernel_rfl) (by kernel_rfl) (by kernel_rfl) (.c 2 rfl (.c 6 rfl (.c 7 rfl (.c 9 rfl (.c 10 rfl .n))))) ?_
                refine r_retv hF rfl (.c (.t rfl) .n) ?_ ?_
                · first | exact Ent.rfl | (repeat (first | exact Ent.rfl | refine Ent.c (SelB.ent) ?_ | refine Ent.c (SelS.ent) ?_ | refine Ent.cN ?_ | refine Ent.c (SelX.ent) ?_ | refine Ent.dropR ?_))
                · first | rfl | exact bool_eq (by simp)
              · skip
                have hc : (beginB u.b zs).2.2 = 0 := by simpa using h6
                have hB : TInv (bgT u zs) := hC.inv.begin zs
                refine r_skip ?_
                refine r_seq ?_
                refine r_region ?_
                refine p_mv rfl rfl ?_
                refine p_callc cf_32 (.c rfl .n) rfl (town_Calm _ tb (bgT u zs) hB) ?_
                refine o_keep (.c 2 rfl (.c 6 rfl (.c 7 rfl (.c 9 rfl (.c 10 rfl .n))))) ?_
                have hone := hC.one hc
                have hV := hB.calm.1.inv
                change (_ ∧ stateB (calmT (bgT u zs)).1.b _ = 2 ∧ worldT (calmT (bgT u zs)).1 = _) ∨ (_ ∧ stateB (calmT (bgT u zs)).1.b _ = 1 ∧ worldT (calmT (bgT u zs)).1 = _) at hone
                generalize (calmT (bgT u zs)).1 = v at hone hV ⊢
                have hv6 := worldT_len hV.len
                refine r_seq ?_
                refine r_region ?_
                refine p_lda ta_23 rfl (by exact (Tk.all (by first | rfl | assumption | (simp only [List.drop_zero, List.length_map]; assumption) | (simp [*]; done)))) rfl ?_
                refine p_mv rfl rfl ?_
                refine p_callv cf_40 (.c rfl (.c rfl .n)) rfl (plan_Apply _ _ zv zs (worldT u) hz.all (by omega) hw6) ?_
                refine p_mv rfl rfl ?_
                refine p_ext rfl rfl rfl ?_
                refine p_ext rfl rfl rfl ?_
                refine p_alloc zr_23 rfl fun b11 => ?_
                refine p_alloc zr_89 rfl fun b12 => ?_
                refine p_store (.ofA ta_23) rfl rfl rfl (by first | rfl | exact (by first | rfl | assumption | (simp only [List.drop_zero, List.length_map]; assumption) | (simp [*]; done))) (by first | rfl | exact (by first | rfl | simp [vI, Value.oneCell'])) (Ins.whole (by first | rfl | (simp only [List.length_map, List.length_cons, List.length_nil]; omega) | (simp [*]; done) | (simp [*]; rfl))) ?_
                refine p_store (.ofA ta_89) rfl rfl rfl rfl rfl (by repeat constructor) ?_
                refine o_keep (.c 6 rfl (.c 7 rfl (.c 9 rfl (.c 10 rfl (.c 11 rfl (.c 12 rfl .n)))))) ?_
                refine r_seq ?_
                refine r_seq ?_
                refine r_region ?_
                refine p_fa fa_89_0 rfl rfl ?_
                refine p_ldc tc_3 rfl (by rfl) rfl ?_
                refine p_neq rfl rfl rfl ?_
                refine o_keep (.c 6 rfl (.c 7 rfl (.c 9 rfl (.c 10 rfl (.c 11 rfl (.c 75 rfl .n)))))) ?_
                refine r_cond _ rfl (fun h7 => ?_) (fun h7 => ?_)
                · skip
                  have hcd : (applyL (worldT u) zs).2.code ≠ 0 := by simpa using h7
                  have ho := (hone.resolve_right fun q => hcd q.1).2
                  refine r_seq ?_
                  refine r_sel (townP tb v) ?_
                  refine r_town fun bb c0 c1 c2 pb => ?_
                  refine r_cat ?_
                  refine r_plan _ [] mo (.c 7 rfl (.c 9 rfl (.c 10 rfl (.c 11 rfl .n)))) Ent.rfl ?_
                  refine qm_q (i := 0) (l := [.k 7]) rfl rfl rfl rfl (by kernel_rfl) rfl (fun He => PV.rq (pv_mv (.n rfl) rfl rfl (fun _ => rfl))) ?_
                  refine qm_q (i := 1) (l := [.o 0]) rfl rfl rfl rfl (by kernel_rfl) rfl (fun He => PV.rq (pv_nilp (.n rfl) rfl rfl (fun _ => rfl))) ?_
                  refine qm_q (i := 2) (l := [.o 1]) rfl rfl rfl rfl (by kernel_rfl) rfl (fun He => PV.rq (pv_fa fa_84_0 (.n rfl) rfl rfl (fun _ => rfl))) ?_
                  refine qm_q (i := 3) (l := [.o 2]) rfl rfl rfl rfl (by kernel_rfl) rfl (fun He => RV.rq (q_ldc tc_80 (.n rfl) rfl rfl (fun _ => rfl) (by rfl))) ?_
                  refine qm_q (i := 4) (l := [.k 10]) rfl rfl rfl rfl (by kernel_rfl) rfl (fun He => PV.rq (pv_mv (.n rfl) rfl rfl (fun _ => rfl))) ?_
                  refine qm_q (i := 5) (l := [.o 3, .o 4]) rfl rfl rfl rfl (by kernel_rfl) rfl (fun He => rq_call cf_41 (.n rfl) rfl (.c rfl (fun _ => rfl) (.c rfl (fun _ => rfl) .n)) (fun hg => (broker_State _ bb v.b hV.b (u.b.l.length : Int)).q)) ?_
                  refine qm_q (i := 6) (l := [.o 5]) rfl rfl rfl rfl (by kernel_rfl) rfl (fun He => PV.rq (pv_to (pv_eql (.n rfl) rfl rfl rfl (fun _ => ⟨rfl, rfl⟩)) (show _ = Value.bool true from bool_eq (by simp [ho.1])))) ?_
                  refine qm_q (i := 7) (l := [.o 6]) rfl rfl rfl rfl (by kernel_rfl) rfl (fun He => PV.rq (pv_mv (.n rfl) rfl rfl (fun _ => rfl))) ?_
                  refine qm_q (i := 8) (l := [.k 7, .o 7]) rfl rfl rfl rfl (by kernel_rfl) rfl (fun He => PV.rq (pv_ung (.s rfl rfl rfl) rfl (pv_mv (.n rfl) rfl rfl (fun _ => rfl)))) ?_
                  refine qm_q (i := 9) (l := [.o 8, .o 7]) rfl rfl rfl rfl (by kernel_rfl) rfl (fun He => rq_ung (.s rfl rfl rfl) rfl (rq_call cf_33 (.n rfl) rfl (.c rfl (fun _ => rfl) .n) (fun hg => (town_World_o _ tb v bb c0 c1 c2 pb hV).q))) ?_
                  refine qm_q (i := 10) (l := [.k 9, .o 7]) rfl rfl rfl rfl (by kernel_rfl) rfl (fun He => RV.rq (rv_ung (.s rfl rfl rfl) rfl (q_lda ta_23 (.n rfl) rfl rfl (fun _ => rfl) (by exact (Tk.all (by first | rfl | assumption | (simp only [List.drop_zero, List.length_map]; assumption) | (simp [*]; done))))))) ?_
                  refine qm_q (i := 11) (l := [.o 9, .o 10, .o 7]) rfl rfl rfl rfl (by kernel_rfl) rfl (fun He => PV.rq (pv_ung (.s rfl rfl rfl) rfl (pv_to (pv_aeq (eq_World hv6 hw6) (.n rfl) rfl rfl rfl (fun _ => ⟨rfl, rfl⟩)) (show _ = Value.bool true from bool_eq (by simp [ho.2]))))) ?_
                  refine qm_q (i := 12) (l := [.o 7, .o 11]) rfl rfl rfl rfl (by kernel_rfl) rfl (fun He => PV.rq (pv_and (.n rfl) rfl rfl rfl (fun _ => ⟨rfl, fun hc => by first | rfl | (rw [hc]; rfl) | simp_all⟩))) ?_
                  refine qm_q (i := 13) (l := [.o 12]) rfl rfl rfl rfl (by kernel_rfl) rfl (fun He => PV.rq (pv_as (.n rfl) rfl rfl (fun _ => rfl))) ?_
                  refine qm_n (by kernel_rfl) (by kernel_rfl) (by kernel_rfl) (by kernel_rfl) (.c 6 rfl (.c 7 rfl (.c 10 rfl (.c 11 rfl .n)))) ?_
                  refine r_retv hF rfl (.c (.t rfl) .n) ?_ ?_
                  · first | exact Ent.rfl | (repeat (first | exact Ent.rfl | refine Ent.c (SelB.ent) ?_ | refine Ent.c (SelS.ent) ?_ | refine Ent.cN ?_ | refine Ent.c (SelX.ent) ?_ | refine Ent.dropR ?_))
                  · first | rfl | exact bool_eq (by simp)
                · skip
                  have hcd : (applyL (worldT u) zs).2.code = 0 := by simpa using h7
                  have ho := (hone.resolve_left fun q => q.1 hcd).2
                  refine r_skip ?_
                  refine r_seq ?_
                  refine r_sel (townP tb v) ?_
                  refine r_town fun bb c0 c1 c2 pb => ?_
                  refine r_cat ?_
                  refine r_plan _ [] mo (.c 7 rfl (.c 10 rfl (.c 11 rfl .n))) Ent.rfl ?_
                  refine qm_q (i := 0) (l := [.k 7]) rfl rfl rfl rfl (by kernel_rfl) rfl (fun He => PV.rq (pv_mv (.n rfl) rfl rfl (fun _ => rfl))) ?_
                  refine qm_q (i := 1) (l := [.o 0]) rfl rfl rfl rfl (by kernel_rfl) rfl (fun He => PV.rq (pv_nilp (.n rfl) rfl rfl (fun _ => rfl))) ?_
                  refine qm_q (i := 2) (l := [.o 1]) rfl rfl rfl rfl (by kernel_rfl) rfl (fun He => PV.rq (pv_fa fa_84_0 (.n rfl) rfl rfl (fun _ => rfl))) ?_
                  refine qm_q (i := 3) (l := [.o 2]) rfl rfl rfl rfl (by kernel_rfl) rfl (fun He => RV.rq (q_ldc tc_80 (.n rfl) rfl rfl (fun _ => rfl) (by rfl))) ?_
                  refine qm_q (i := 4) (l := [.k 10]) rfl rfl rfl rfl (by kernel_rfl) rfl (fun He => PV.rq (pv_mv (.n rfl) rfl rfl (fun _ => rfl))) ?_
                  refine qm_q (i := 5) (l := [.o 3, .o 4]) rfl rfl rfl rfl (by kernel_rfl) rfl (fun He => rq_call cf_41 (.n rfl) rfl (.c rfl (fun _ => rfl) (.c rfl (fun _ => rfl) .n)) (fun hg => (broker_State _ bb v.b hV.b (u.b.l.length : Int)).q)) ?_
                  refine qm_q (i := 6) (l := [.o 5]) rfl rfl rfl rfl (by kernel_rfl) rfl (fun He => PV.rq (pv_to (pv_eql (.n rfl) rfl rfl rfl (fun _ => ⟨rfl, rfl⟩)) (show _ = Value.bool true from bool_eq (by simp [ho.1])))) ?_
                  refine qm_q (i := 7) (l := [.o 6]) rfl rfl rfl rfl (by kernel_rfl) rfl (fun He => PV.rq (pv_mv (.n rfl) rfl rfl (fun _ => rfl))) ?_
                  refine qm_q (i := 8) (l := [.k 7, .o 7]) rfl rfl rfl rfl (by kernel_rfl) rfl (fun He => PV.rq (pv_ung (.s rfl rfl rfl) rfl (pv_mv (.n rfl) rfl rfl (fun _ => rfl)))) ?_
                  refine qm_q (i := 9) (l := [.o 8, .o 7]) rfl rfl rfl rfl (by kernel_rfl) rfl (fun He => rq_ung (.s rfl rfl rfl) rfl (rq_call cf_33 (.n rfl) rfl (.c rfl (fun _ => rfl) .n) (fun hg => (town_World_o _ tb v bb c0 c1 c2 pb hV).q))) ?_
                  refine qm_q (i := 10) (l := [.k 11, .o 7]) rfl rfl rfl rfl (by kernel_rfl) rfl (fun He => RV.rq (rv_ung (.s rfl rfl rfl) rfl (q_lda ta_23 (.n rfl) rfl rfl (fun _ => rfl) (by exact (Tk.all (by first | rfl | assumption | (simp only [List.drop_zero, List.length_map]; assumption) | (simp [*]; done))))))) ?_
                  refine qm_q (i := 11) (l := [.o 9, .o 10, .o 7]) rfl rfl rfl rfl (by kernel_rfl) rfl (fun He => PV.rq (pv_ung (.s rfl rfl rfl) rfl (pv_to (pv_aeq (eq_World hv6 hal) (.n rfl) rfl rfl rfl (fun _ => ⟨rfl, rfl⟩)) (show _ = Value.bool true from bool_eq (by simp [ho.2]))))) ?_
                  refine qm_q (i := 12) (l := [.o 7, .o 11]) rfl rfl rfl rfl (by kernel_rfl) rfl (fun He => PV.rq (pv_and (.n rfl) rfl rfl rfl (fun _ => ⟨rfl, fun hc => by first | rfl | (rw [hc]; rfl) | simp_all⟩))) ?_
                  refine qm_q (i := 13) (l := [.o 12]) rfl rfl rfl rfl (by kernel_rfl) rfl (fun He => PV.rq (pv_as (.n rfl) rfl rfl (fun _ => rfl))) ?_
                  refine qm_n (by kernel_rfl) (by kernel_rfl) (by kernel_rfl) (by kernel_rfl) (.c 6 rfl .n) ?_
                  refine r_retv hF rfl (.c (.t rfl) .n) ?_ ?_
                  · first | exact Ent.rfl | (repeat (first | exact Ent.rfl | refine Ent.c (SelB.ent) ?_ | refine Ent.c (SelS.ent) ?_ | refine Ent.cN ?_ | refine Ent.c (SelX.ent) ?_ | refine Ent.dropR ?_))
                  · first | rfl | exact bool_eq (by simp)

end Go.Proofs.Ytmakdilmibjpbac
