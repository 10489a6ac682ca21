/- The walks of PlanLaws: written by a program of ours (gen.py) over the engine. -/
import Derived.Test.YtmakdilmibjpbaaPlain
import Derived.Test.YtmakdilmibjpbaaFacts
import Derived.Test.YtmakdilmibjpbaaPlanL
import Derived.Test.YtmakdilmibjpbaaPlanW
import Derived.Test.YtmakdilmibjpbaaTwo
namespace Go.Proofs.Ytmakdilmibjpbaa
open Go Go.RowKit
set_option linter.unusedVariables false
set_option linter.unusedSimpArgs false
set_option maxRecDepth 20000

theorem rdNil {sz : Nat} {M : Amb} {H : List HP} : Rd M H (.slice Option.none 0 0) sz [] := ⟨fun r hr => (by cases hr), Option.none, 0, rfl, Nat.le_refl _, (by simp [maxLen]), fun _ => ⟨rfl, rfl⟩, fun A hA => (by cases hA)⟩
def wapW (w : Want) : Want := ⟨w.ctr, IntKind.i64.wrap (-w.dl)⟩
theorem wap_n {w : Want} (h : -100 ≤ w.dl ∧ w.dl ≤ 100) : wapW w = nW w := by unfold wapW nW; rw [wrap_in (by omega)]
theorem wap_map {l : List Want} (h : ∀ w ∈ l, wantF w = 0) : l.map wapW = l.map nW := List.map_congr_left fun w hw => wap_n (by have := wantF_ok (h w hw); omega)

theorem law_planBegun (M : Amb) (H : List HP)  : FnV Try.prog M H 36 [] (.bool true) := by
  refine fn_intro Try.func36 rfl Try.ntmps36 rfl fun F hF => ?_
  refine r_seq ?_
  refine r_region ?_
  refine p_as rfl rfl ?_
  refine o_keep (.c 0 rfl .n) ?_
  refine r_seq ?_
  refine r_region ?_
  refine p_build zr_29 pl_29 (.c rfl (fun _ => rfl) rfl rfl rfl (by repeat constructor) (.c rfl (fun _ => rfl) rfl rfl rfl (by repeat constructor) .n)) rfl ?_
  refine p_build zr_29 pl_29 (.c rfl (fun _ => rfl) rfl rfl rfl (by repeat constructor) (.c rfl (fun _ => rfl) rfl rfl rfl (by repeat constructor) .n)) rfl ?_
  refine p_bslice2 Try.underlying57 (.ofA ta_29) zr_29 rfl rfl rfl rfl rfl rfl rfl rfl rfl rfl rfl fun b7 => ?_
  refine p_as rfl rfl ?_
  refine o_keep (.c 0 rfl (.c 1 rfl .n)) ?_
  refine r_seq ?_
  refine r_ent (Ent.slOf (b := b7) (nn := 2) rfl) ?_
  refine r_rd (.slice (some ⟨b7, 0, Option.none⟩) 2 2) fun hr0 => ?_
  have hr := hr0.to (rows' := ([⟨5, 3⟩, ⟨0, -2⟩] : List Want).map rW) rfl
  have hA6 : (applyL [5, 0, 7, 0, 0, 0] ([⟨5, 3⟩, ⟨0, -2⟩] : List Want)).1.length = 6 := applyL_len rfl
  refine r_region ?_
  refine l_op (x_p (pv_buildA zr_59 Try.underlying59 (.ofC tc_3) (.n rfl) rfl (.c rfl (fun _ => rfl) rfl rfl (by repeat constructor) (.c rfl (fun _ => rfl) rfl rfl (by repeat constructor) .n))) rfl rfl ?_)
  refine p_mv rfl rfl ?_
  refine p_callv cf_39 (.c rfl (.c rfl .n)) rfl (plan_Apply _ _ _ ([⟨5, 3⟩, ⟨0, -2⟩] : List Want) [5, 0, 7, 0, 0, 0] hr.own (by decide) rfl) ?_
  refine p_mv rfl rfl ?_
  refine p_ext rfl rfl rfl ?_
  refine p_ext rfl rfl rfl ?_
  refine p_alloc zr_59 rfl fun b2 => ?_
  refine p_alloc zr_62 rfl fun b3 => ?_
  refine p_store (.ofA ta_59) rfl rfl rfl (by first | rfl | exact (by first | rfl | assumption | (simp only [List.drop_zero, List.length_map]; assumption) | (simp [*]; done))) (by first | rfl | exact (by simp [vI, rF, Value.oneCell'])) (Ins.whole (by first | rfl | (simp only [List.length_map, List.length_cons, List.length_nil]; omega) | (simp [*]; done) | (simp [*]; rfl))) ?_
  refine p_store (.ofA ta_62) rfl rfl rfl (by first | rfl | exact rfl) (by first | rfl | exact (by simp [vI, rF, Value.oneCell'])) (Ins.whole (by first | rfl | (simp only [List.length_map, List.length_cons, List.length_nil]; omega) | (simp [*]; done) | (simp [*]; rfl))) ?_
  refine o_keep (.c 0 rfl (.c 1 rfl (.c 2 rfl (.c 3 rfl .n)))) ?_
  refine r_seq ?_
  refine r_region ?_
  refine p_mv rfl rfl ?_
  refine p_calle cf_46 (.c rfl .n) rfl (plan_Shops _ [sl (.slice (some ⟨b7, 0, Option.none⟩) 2 2) 29 2 _] _ ([⟨5, 3⟩, ⟨0, -2⟩] : List Want) hr (by decide)) fun sv => ?_
  refine o_cat ?_
  refine o_rd sv fun hs => ?_
  refine p_as rfl rfl ?_
  refine o_keep (.c 0 rfl (.c 2 rfl (.c 3 rfl (.c 4 rfl .n)))) ?_
  refine r_seq ?_
  refine r_region ?_
  refine p_lda ta_62 rfl (by exact (Tk.all rfl)) rfl ?_
  refine p_build zr_62 pl_62 (.n) rfl ?_
  refine l_op (x_p (pv_aeq (eq_Fault (g := ⟨0, 0⟩)) (.n rfl) rfl rfl rfl (fun _ => ⟨rfl, rfl⟩)) rfl rfl ?_)
  refine p_mv rfl rfl ?_
  refine l_op (x_r (q_lda ta_59 (.s rfl rfl rfl) rfl rfl (by first | exact fun _ => rfl | exact id | exact fun h => (Bool.and_eq_true_iff.1 h).1 | simp_all) (by exact (Tk.all (by first | rfl | assumption | (simp only [List.drop_zero, List.length_map]; assumption) | (simp [*]; done))))) rfl rfl ?_)
  refine l_op (x_p (pv_buildA zr_59 Try.underlying59 (.ofC tc_3) (.s rfl rfl rfl) rfl (.c rfl (by first | exact fun _ => rfl | exact id | exact fun h => (Bool.and_eq_true_iff.1 h).1 | simp_all) rfl rfl (by repeat constructor) (.c rfl (by first | exact fun _ => rfl | exact id | exact fun h => (Bool.and_eq_true_iff.1 h).1 | simp_all) rfl rfl (by repeat constructor) (.c rfl (by first | exact fun _ => rfl | exact id | exact fun h => (Bool.and_eq_true_iff.1 h).1 | simp_all) rfl rfl (by repeat constructor) .n)))) rfl rfl ?_)
  refine l_op (x_p (pv_aeq (eq_World (vs := [3, 0, 7, 0, 0, 3]) hA6 rfl) (.s rfl rfl rfl) rfl rfl rfl (by refine fun h => ⟨?_, ?_⟩ <;> first | rfl | exact h | simp_all)) rfl rfl ?_)
  refine l_op (x_p (pv_and (.n rfl) rfl rfl rfl (fun _ => ⟨rfl, fun hc => by first | rfl | (rw [hc]; rfl) | simp_all⟩)) rfl rfl ?_)
  refine p_mv rfl rfl ?_
  refine l_op (x_p (pv_mv (.s rfl rfl rfl) rfl rfl (by first | exact fun _ => rfl | exact id | exact fun h => (Bool.and_eq_true_iff.1 h).1 | simp_all)) rfl rfl ?_)
  refine l_op (x_p (pv_lens (Rd.len hs) ⟨_, Try.underlying53⟩ (.s rfl rfl rfl) rfl rfl rfl rfl (by first | exact fun _ => rfl | exact id | exact fun h => (Bool.and_eq_true_iff.1 h).1 | simp_all)) rfl rfl ?_)
  refine l_op (x_p (pv_eql (.s rfl rfl rfl) rfl rfl rfl (by refine fun h => ⟨?_, ?_⟩ <;> first | rfl | exact h | exact (Bool.and_eq_true_iff.1 h).1 | simp_all)) rfl rfl ?_)
  refine l_op (x_p (pv_and (.n rfl) rfl rfl rfl (fun _ => ⟨rfl, fun hc => by first | rfl | (rw [hc]; rfl) | simp_all⟩)) rfl rfl ?_)
  refine p_mv rfl rfl ?_
  refine l_op (x_p (pv_mv (.s rfl rfl rfl) rfl rfl (by first | exact fun _ => rfl | exact id | exact fun h => (Bool.and_eq_true_iff.1 h).1 | simp_all)) rfl rfl ?_)
  refine l_op (x_p (pv_idx Try.underlying53 (.ofC tc_3) hs (fun hg => ⟨rfl, (show ((shopsL ([⟨5, 3⟩, ⟨0, -2⟩] : List Want)).map rI)[0]? = some (rI 0) by rfl)⟩) (.s rfl rfl rfl) rfl rfl rfl (by refine fun h => ⟨?_, ?_⟩ <;> first | rfl | exact h | exact (Bool.and_eq_true_iff.1 h).1 | simp_all)) rfl rfl ?_)
  refine l_op (x_r (rv_ldat (j := 0) tc_3 (Rd.ent hs (by repeat (first | exact Ent.rfl | exact Ent.one Ent.h | exact Ent.one (SelS.ent) | exact Ent.nil | exact Ent.left | refine Ent.dropR ?_ | refine Ent.tr Ent.skip ?_))) (fun hg => (show ((shopsL ([⟨5, 3⟩, ⟨0, -2⟩] : List Want)).map rI)[0]? = some (rI 0) by rfl)) (.s rfl rfl rfl) rfl rfl (by first | exact fun _ => rfl | exact id | exact fun h => (Bool.and_eq_true_iff.1 h).1 | simp_all) rfl (fun _ => rfl)) rfl rfl ?_)
  refine l_op (x_p (pv_eql (.s rfl rfl rfl) rfl rfl rfl (by refine fun h => ⟨?_, ?_⟩ <;> first | rfl | exact h | exact (Bool.and_eq_true_iff.1 h).1 | simp_all)) rfl rfl ?_)
  refine l_op (x_p (pv_and (.n rfl) rfl rfl rfl (fun _ => ⟨rfl, fun hc => by first | rfl | (rw [hc]; rfl) | simp_all⟩)) rfl rfl ?_)
  refine p_mv rfl rfl ?_
  refine l_op (x_p (pv_mv (.s rfl rfl rfl) rfl rfl (by first | exact fun _ => rfl | exact id | exact fun h => (Bool.and_eq_true_iff.1 h).1 | simp_all)) rfl rfl ?_)
  refine l_op (x_p (pv_idx Try.underlying53 (.ofC tc_3) hs (fun hg => ⟨rfl, (show ((shopsL ([⟨5, 3⟩, ⟨0, -2⟩] : List Want)).map rI)[1]? = some (rI 2) by rfl)⟩) (.s rfl rfl rfl) rfl rfl rfl (by refine fun h => ⟨?_, ?_⟩ <;> first | rfl | exact h | exact (Bool.and_eq_true_iff.1 h).1 | simp_all)) rfl rfl ?_)
  refine l_op (x_r (rv_ldat (j := 0) tc_3 (Rd.ent hs (by repeat (first | exact Ent.rfl | exact Ent.one Ent.h | exact Ent.one (SelS.ent) | exact Ent.nil | exact Ent.left | refine Ent.dropR ?_ | refine Ent.tr Ent.skip ?_))) (fun hg => (show ((shopsL ([⟨5, 3⟩, ⟨0, -2⟩] : List Want)).map rI)[1]? = some (rI 2) by rfl)) (.s rfl rfl rfl) rfl rfl (by first | exact fun _ => rfl | exact id | exact fun h => (Bool.and_eq_true_iff.1 h).1 | simp_all) rfl (fun _ => rfl)) rfl rfl ?_)
  refine l_op (x_p (pv_eql (.s rfl rfl rfl) rfl rfl rfl (by refine fun h => ⟨?_, ?_⟩ <;> first | rfl | exact h | exact (Bool.and_eq_true_iff.1 h).1 | simp_all)) rfl rfl ?_)
  refine l_op (x_p (pv_and (.n rfl) rfl rfl rfl (fun _ => ⟨rfl, fun hc => by first | rfl | (rw [hc]; rfl) | simp_all⟩)) rfl rfl ?_)
  refine p_mv rfl rfl ?_
  refine l_op (x_q (rq_call cf_41 (.s rfl rfl rfl) rfl (.c rfl (by first | exact fun _ => rfl | exact id | exact fun h => (Bool.and_eq_true_iff.1 h).1 | simp_all) .n) (fun hg => plan_Shop _ _ _)) rfl rfl ?_)
  refine l_op (x_p (pv_eql (.s rfl rfl rfl) rfl rfl rfl (by refine fun h => ⟨?_, ?_⟩ <;> first | rfl | exact h | exact (Bool.and_eq_true_iff.1 h).1 | simp_all)) rfl rfl ?_)
  refine l_op (x_p (pv_and (.n rfl) rfl rfl rfl (fun _ => ⟨rfl, fun hc => by first | rfl | (rw [hc]; rfl) | simp_all⟩)) rfl rfl ?_)
  refine p_mv rfl rfl ?_
  refine l_op (x_p (pv_build zr_29 pl_29 (.s rfl rfl rfl) rfl (.n)) rfl rfl ?_)
  refine l_op (x_q (rq_call cf_37 (.s rfl rfl rfl) rfl (.c rfl (by first | exact fun _ => rfl | exact id | exact fun h => (Bool.and_eq_true_iff.1 h).1 | simp_all) .n) (fun hg => plan_Want _ _ ⟨0, 0⟩)) rfl rfl ?_)
  refine l_op (x_p (pv_eql (.s rfl rfl rfl) rfl rfl rfl (by refine fun h => ⟨?_, ?_⟩ <;> first | rfl | exact h | exact (Bool.and_eq_true_iff.1 h).1 | simp_all)) rfl rfl ?_)
  refine l_op (x_p (pv_and (.n rfl) rfl rfl rfl (fun _ => ⟨rfl, fun hc => by first | rfl | (rw [hc]; rfl) | simp_all⟩)) rfl rfl ?_)
  refine p_mv rfl rfl ?_
  refine l_op (x_q (rq_call cf_43 (.s rfl rfl rfl) rfl (.c rfl (by first | exact fun _ => rfl | exact id | exact fun h => (Bool.and_eq_true_iff.1 h).1 | simp_all) .n) (fun hg => plan_Check _ _ _ [] rdNil (by decide))) rfl rfl ?_)
  refine l_op (x_p (pv_field Try.underlying62 rfl tc_3 (.s rfl rfl rfl) rfl rfl rfl (by first | exact fun _ => rfl | exact id | exact fun h => (Bool.and_eq_true_iff.1 h).1 | simp_all)) rfl rfl ?_)
  refine l_op (x_p (pv_eql (.s rfl rfl rfl) rfl rfl rfl (by refine fun h => ⟨?_, ?_⟩ <;> first | rfl | exact h | exact (Bool.and_eq_true_iff.1 h).1 | simp_all)) rfl rfl ?_)
  refine l_op (x_p (pv_and (.n rfl) rfl rfl rfl (fun _ => ⟨rfl, fun hc => by first | rfl | (rw [hc]; rfl) | simp_all⟩)) rfl rfl ?_)
  refine p_as rfl rfl ?_
  refine o_keep (.c 0 rfl .n) ?_
  refine r_retv hF rfl (.c (.t rfl) .n) ?_ ?_
  · first | exact Ent.rfl | (repeat (first | exact Ent.rfl | refine Ent.c (SelB.ent) ?_ | refine Ent.c (SelS.ent) ?_ | refine Ent.cN ?_ | refine Ent.c (SelX.ent) ?_ | refine Ent.dropR ?_))
  · exact bool_eq (by decide +kernel)

theorem law_PlanDoes (M : Amb) (H : List HP) (v : Value) (l : List Want) (hl : Rd M [] v 2 (l.map rW)) (ws : List Int) (h6 : ws.length = 6) (n : Int) : FnV Try.prog M H 10 [v, .agg (ws.map vI).toArray, .int .i64 n] (.bool true) := by
  refine fn_intro Try.func10 rfl Try.ntmps10 rfl fun F hF => ?_
  have hA6 := applyL_len (l := l) h6
  have hS := shopsL_len l
  refine r_seq ?_
  refine r_region ?_
  refine p_box rfl rfl rfl fun b4 => ?_
  refine p_as rfl rfl ?_
  refine o_keep (.c 0 rfl (.c 2 rfl (.c 4 rfl (.c 6 rfl .n)))) ?_
  refine r_seq ?_
  refine r_seq ?_
  refine r_region ?_
  refine p_callv cf_36 (.n) rfl (law_planBegun _ _) ?_
  refine p_not rfl rfl ?_
  refine o_keep (.c 0 rfl (.c 2 rfl (.c 4 rfl (.c 6 rfl (.c 13 rfl .n))))) ?_
  refine r_cond _ rfl (fun h1 => ?_) (fun h1 => ?_)
  · simp at h1
  · skip
    refine r_skip ?_
    refine r_seq ?_
    refine r_seq ?_
    refine r_region ?_
    refine p_mv rfl rfl ?_
    refine l_op (x_p (pv_lens hl.len ⟨_, Try.underlying57⟩ (.n rfl) rfl rfl rfl rfl (fun _ => rfl)) rfl rfl ?_)
    refine p_gtr rfl rfl rfl ?_
    refine o_keep (.c 0 rfl (.c 2 rfl (.c 4 rfl (.c 6 rfl (.c 16 rfl .n))))) ?_
    refine r_cond _ rfl (fun h2 => ?_) (fun h2 => ?_)
    · skip
      refine r_seq ?_
      refine r_region ?_
      refine p_as rfl rfl ?_
      refine o_keep (.c 0 rfl (.c 2 rfl (.c 4 rfl (.c 6 rfl .n)))) ?_
      refine r_retv hF rfl (.c (.t rfl) .n) ?_ ?_
      · first | exact Ent.rfl | (repeat (first | exact Ent.rfl | refine Ent.c (SelB.ent) ?_ | refine Ent.c (SelS.ent) ?_ | refine Ent.cN ?_ | refine Ent.c (SelX.ent) ?_ | refine Ent.dropR ?_))
      · first | rfl | exact bool_eq (by simp)
    · skip
      have hL := of_decide_eq_false h2
      refine r_skip ?_
      refine r_seq ?_
      refine r_seq ?_
      refine r_region ?_
      refine p_as rfl rfl ?_
      refine o_keep (.c 0 rfl (.c 2 rfl (.c 4 rfl (.c 6 rfl (.c 7 rfl .n))))) ?_
      refine r_block ?_
      refine r_loop_1 (fun (i : Nat) => [(7, true, .int .i64 (i : Int))]) (.c 0 rfl (.c 2 rfl (.c 4 rfl (.c 6 rfl .n)))) (fun (i : Nat) => blk b4 (ws.map vI) 59 :: H) (fun (i : Nat) => i ≤ l.length) (fun (i : Nat) => l.length - i) (0) ?_ (.c 7 rfl .n) ?_ (fun i hI => ?_)
      · exact Nat.zero_le _
      · first | exact Ent.rfl | (repeat (first | exact Ent.rfl | refine Ent.c (SelB.ent) ?_ | refine Ent.c (SelS.ent) ?_ | refine Ent.cN ?_ | refine Ent.c (SelX.ent) ?_ | refine Ent.dropR ?_))
      · skip
        refine r_seq ?_
        refine r_seq ?_
        refine r_region ?_
        refine p_mv rfl rfl ?_
        refine p_mv rfl rfl ?_
        refine l_op (x_p (pv_lens hl.len ⟨_, Try.underlying57⟩ (.n rfl) rfl rfl rfl rfl (fun _ => rfl)) rfl rfl ?_)
        refine p_lss rfl rfl rfl ?_
        refine o_keep (.c 0 rfl (.c 2 rfl (.c 4 rfl (.c 6 rfl (.c 7 rfl (.c 20 rfl .n)))))) ?_
        refine r_cond _ rfl (fun h3 => ?_) (fun h3 => ?_)
        · skip
          obtain ⟨w, hw⟩ := getlt (l := l) (i := i) (by have := of_decide_eq_true h3; omega)
          refine r_skip ?_
          refine r_seq ?_
          refine r_block ?_
          refine r_seq ?_
          refine r_plan _ [] mo (.c 0 rfl (.c 2 rfl (.c 4 rfl (.c 6 rfl (.c 7 rfl .n))))) Ent.rfl ?_
          refine qm_q (i := 0) (l := [.k 0]) rfl rfl rfl rfl (by kernel_rfl) rfl (fun He => PV.rq (pv_mv (.n rfl) rfl rfl (fun _ => rfl))) ?_
          refine qm_q (i := 1) (l := [.k 7]) rfl rfl rfl rfl (by kernel_rfl) rfl (fun He => PV.rq (pv_mv (.n rfl) rfl rfl (fun _ => rfl))) ?_
          refine qm_q (i := 2) (l := [.o 0, .o 1]) rfl rfl rfl rfl (by kernel_rfl) rfl (fun He => PV.rq (pv_idx Try.underlying57 (.ofA ta_29) hl (fun hg => ⟨rfl, (mapget hw)⟩) (.n rfl) rfl rfl rfl (fun _ => ⟨rfl, rfl⟩))) ?_
          refine qm_q (i := 3) (l := [.o 2]) rfl rfl rfl rfl (by kernel_rfl) rfl (fun He => RV.rq (rv_ldats (j := 0) ta_29 (Rd.ent hl (by repeat (first | exact Ent.rfl | exact Ent.one Ent.h | exact Ent.one (SelS.ent) | exact Ent.nil | exact Ent.left | refine Ent.dropR ?_ | refine Ent.tr Ent.skip ?_))) (fun hg => (mapget hw)) (.n rfl) rfl rfl (fun _ => rfl) rfl (.s (.s .z)))) ?_
          refine qm_q (i := 4) (l := [.o 3]) rfl rfl rfl rfl (by kernel_rfl) rfl (fun He => rq_call cf_37 (.n rfl) rfl (.c rfl (fun _ => rfl) .n) (fun hg => plan_Want _ _ _)) ?_
          refine qm_q (i := 5) (l := [.k 0]) rfl rfl rfl rfl (by kernel_rfl) rfl (fun He => PV.rq (pv_mv (.n rfl) rfl rfl (fun _ => rfl))) ?_
          refine qm_q (i := 6) (l := [.k 7]) rfl rfl rfl rfl (by kernel_rfl) rfl (fun He => PV.rq (pv_mv (.n rfl) rfl rfl (fun _ => rfl))) ?_
          refine qm_q (i := 7) (l := [.o 5, .o 6]) rfl rfl rfl rfl (by kernel_rfl) rfl (fun He => PV.rq (pv_idx Try.underlying57 (.ofA ta_29) hl (fun hg => ⟨rfl, (mapget hw)⟩) (.n rfl) rfl rfl rfl (fun _ => ⟨rfl, rfl⟩))) ?_
          refine qm_q (i := 8) (l := [.o 7]) rfl rfl rfl rfl (by kernel_rfl) rfl (fun He => RV.rq (rv_ldats (j := 0) ta_29 (Rd.ent hl (by repeat (first | exact Ent.rfl | exact Ent.one Ent.h | exact Ent.one (SelS.ent) | exact Ent.nil | exact Ent.left | refine Ent.dropR ?_ | refine Ent.tr Ent.skip ?_))) (fun hg => (mapget hw)) (.n rfl) rfl rfl (fun _ => rfl) rfl (.s (.s .z)))) ?_
          refine qm_q (i := 9) (l := [.o 8]) rfl rfl rfl rfl (by kernel_rfl) rfl (fun He => rq_call cf_38 (.n rfl) rfl (.c rfl (fun _ => rfl) .n) (fun hg => ref_WantFault _ _ _)) ?_
          refine qm_q (i := 10) (l := [.o 4, .o 9]) rfl rfl rfl rfl (by kernel_rfl) rfl (fun He => PV.rq (pv_neq (.n rfl) rfl rfl rfl (fun _ => ⟨rfl, rfl⟩))) ?_
          refine qm_n (by kernel_rfl) (by kernel_rfl) (by kernel_rfl) (by kernel_rfl) (.c 0 rfl (.c 2 rfl (.c 4 rfl (.c 6 rfl (.c 7 rfl (.c 33 rfl .n)))))) ?_
          refine r_cond _ rfl (fun h4 => ?_) (fun h4 => ?_)
          · simp at h4
          · skip
            refine r_skip ?_
            refine r_end ?_
            refine r_region ?_
            refine p_mv rfl rfl ?_
            refine p_add rfl rfl (by omega) rfl ?_
            refine p_as rfl rfl ?_
            refine o_keep (.c 0 rfl (.c 2 rfl (.c 4 rfl (.c 6 rfl (.c 7 rfl .n))))) ?_
            have hil := (List.getElem?_eq_some_iff.1 hw).1
            refine r_back_1 (i + 1) ?_ ?_ (Keep.app (.c 7 rfl .n) (.c 0 rfl (.c 2 rfl (.c 4 rfl (.c 6 rfl .n))))) ?_
            · omega
            · omega
            · first | exact Ent.rfl | (repeat (first | exact Ent.rfl | refine Ent.c (SelB.ent) ?_ | refine Ent.c (SelS.ent) ?_ | refine Ent.cN ?_ | refine Ent.c (SelX.ent) ?_ | refine Ent.dropR ?_))
        · skip
          refine r_exit rfl ?_
          refine r_seq ?_
          refine r_region ?_
          refine p_lda ta_59 rfl (by exact (Tk.all (by first | rfl | assumption | (simp only [List.drop_zero, List.length_map]; assumption) | (simp [*]; done)))) rfl ?_
          refine p_mv rfl rfl ?_
          refine p_callv cf_39 (.c rfl (.c rfl .n)) rfl (plan_Apply _ _ _ l ws hl.all (by omega) h6) ?_
          refine p_mv rfl rfl ?_
          refine p_ext rfl rfl rfl ?_
          refine p_ext rfl rfl rfl ?_
          refine p_alloc zr_59 rfl fun b8 => ?_
          refine p_alloc zr_62 rfl fun b9 => ?_
          refine p_store (.ofA ta_59) rfl rfl rfl (by first | rfl | exact (by first | rfl | assumption | (simp only [List.drop_zero, List.length_map]; assumption) | (simp [*]; done))) (by first | rfl | exact (by simp [vI, rF, Value.oneCell'])) (Ins.whole (by first | rfl | (simp only [List.length_map, List.length_cons, List.length_nil]; omega) | (simp [*]; done) | (simp [*]; rfl))) ?_
          refine p_store (.ofA ta_62) rfl rfl rfl (by first | rfl | exact rfl) (by first | rfl | exact (by simp [vI, rF, Value.oneCell'])) (Ins.whole (by first | rfl | (simp only [List.length_map, List.length_cons, List.length_nil]; omega) | (simp [*]; done) | (simp [*]; rfl))) ?_
          refine o_keep (.c 0 rfl (.c 2 rfl (.c 4 rfl (.c 6 rfl (.c 8 rfl (.c 9 rfl .n)))))) ?_
          refine r_seq ?_
          refine r_region ?_
          refine p_lda ta_59 rfl (by exact (Tk.all (by first | rfl | assumption | (simp only [List.drop_zero, List.length_map]; assumption) | (simp [*]; done)))) rfl ?_
          refine p_mv rfl rfl ?_
          refine p_callv cf_40 (.c rfl (.c rfl .n)) rfl (ref_Applied _ _ _ l ws hl.all (by omega) h6) ?_
          refine p_mv rfl rfl ?_
          refine p_ext rfl rfl rfl ?_
          refine p_ext rfl rfl rfl ?_
          refine p_alloc zr_59 rfl fun b10 => ?_
          refine p_alloc zr_62 rfl fun b11 => ?_
          refine p_store (.ofA ta_59) rfl rfl rfl (by first | rfl | exact (by first | rfl | assumption | (simp only [List.drop_zero, List.length_map]; assumption) | (simp [*]; done))) (by first | rfl | exact (by simp [vI, rF, Value.oneCell'])) (Ins.whole (by first | rfl | (simp only [List.length_map, List.length_cons, List.length_nil]; omega) | (simp [*]; done) | (simp [*]; rfl))) ?_
          refine p_store (.ofA ta_62) rfl rfl rfl (by first | rfl | exact rfl) (by first | rfl | exact (by simp [vI, rF, Value.oneCell'])) (Ins.whole (by first | rfl | (simp only [List.length_map, List.length_cons, List.length_nil]; omega) | (simp [*]; done) | (simp [*]; rfl))) ?_
          refine o_keep (.c 0 rfl (.c 2 rfl (.c 6 rfl (.c 8 rfl (.c 9 rfl (.c 10 rfl (.c 11 rfl .n))))))) ?_
          refine r_seq ?_
          refine r_region ?_
          refine p_mv rfl rfl ?_
          refine p_callv cf_41 (.c rfl .n) rfl (plan_Shop _ _ _) ?_
          refine p_mv rfl rfl ?_
          refine p_callv cf_42 (.c rfl .n) rfl (ref_ShopOf _ _ _) ?_
          refine p_eql rfl rfl rfl ?_
          refine p_mv rfl rfl ?_
          refine l_op (x_p (pv_mv (.s rfl rfl rfl) rfl rfl (by first | exact fun _ => rfl | exact id | exact fun h => (Bool.and_eq_true_iff.1 h).1 | simp_all)) rfl rfl ?_)
          refine l_op (x_q (rq_call cf_43 (.s rfl rfl rfl) rfl (.c rfl (by first | exact fun _ => rfl | exact id | exact fun h => (Bool.and_eq_true_iff.1 h).1 | simp_all) .n) (fun hg => plan_Check _ _ _ l hl.all (by omega))) rfl rfl ?_)
          refine l_op (x_p (pv_mv (.s rfl rfl rfl) rfl rfl (by first | exact fun _ => rfl | exact id | exact fun h => (Bool.and_eq_true_iff.1 h).1 | simp_all)) rfl rfl ?_)
          refine l_op (x_q (rq_call cf_44 (.s rfl rfl rfl) rfl (.c rfl (by first | exact fun _ => rfl | exact id | exact fun h => (Bool.and_eq_true_iff.1 h).1 | simp_all) .n) (fun hg => ref_WantsFault _ _ _ l hl.all (by omega))) rfl rfl ?_)
          refine l_op (x_p (pv_aeq (eq_Fault) (.s rfl rfl rfl) rfl rfl rfl (by refine fun h => ⟨?_, ?_⟩ <;> first | rfl | exact h | exact (Bool.and_eq_true_iff.1 h).1 | simp_all)) rfl rfl ?_)
          refine l_op (x_p (pv_and (.n rfl) rfl rfl rfl (fun _ => ⟨rfl, fun hc => by first | rfl | (rw [hc]; rfl) | simp_all⟩)) rfl rfl ?_)
          refine p_mv rfl rfl ?_
          refine o_split (t := 58) rfl (fun g5 => ?_) (fun g5 => ?_)
          · skip
            refine o_g (.s rfl rfl rfl) rfl ?_
            refine p_mv rfl rfl ?_
            refine o_g (.s rfl rfl rfl) rfl ?_
            refine p_calle cf_46 (.c rfl .n) rfl (plan_Shops _ [] _ l hl (by omega)) fun sv => ?_
            refine o_cat ?_
            refine o_rd sv fun hs => ?_
            refine o_g (.s rfl rfl rfl) rfl ?_
            refine p_mv rfl rfl ?_
            refine o_g (.s rfl rfl rfl) rfl ?_
            refine p_calle cf_47 (.c rfl .n) rfl (ref_ShopsOf _ [] _ l hl (by omega)) fun uv => ?_
            refine o_cat ?_
            refine o_rd uv fun hu => ?_
            refine o_g (.s rfl rfl rfl) rfl ?_
            refine p_callv cf_45 (.c rfl (.c rfl .n)) rfl (ref_SameInts _ _ _ _ (shopsL l) (shopsL l) hs.own hu.own (by omega)) ?_
            refine l_op (x_p (pv_and (.n rfl) rfl rfl rfl (fun _ => ⟨rfl, fun hc => by first | rfl | (rw [hc]; rfl) | simp_all⟩)) rfl rfl ?_)
            refine p_mv rfl rfl ?_
            refine l_op (x_r (q_lda ta_59 (.s rfl rfl rfl) rfl rfl (by first | exact fun _ => rfl | exact id | exact fun h => (Bool.and_eq_true_iff.1 h).1 | simp_all) (by exact (Tk.all (by first | rfl | assumption | (simp only [List.drop_zero, List.length_map]; assumption) | (simp [*]; done))))) rfl rfl ?_)
            refine l_op (x_r (q_lda ta_59 (.s rfl rfl rfl) rfl rfl (by first | exact fun _ => rfl | exact id | exact fun h => (Bool.and_eq_true_iff.1 h).1 | simp_all) (by exact (Tk.all (by first | rfl | assumption | (simp only [List.drop_zero, List.length_map]; assumption) | (simp [*]; done))))) rfl rfl ?_)
            refine l_op (x_p (pv_aeq (eq_World (by first | rfl | assumption | (simp [*]; done)) (by first | rfl | assumption | (simp [*]; done))) (.s rfl rfl rfl) rfl rfl rfl (by refine fun h => ⟨?_, ?_⟩ <;> first | rfl | exact h | exact (Bool.and_eq_true_iff.1 h).1 | simp_all)) rfl rfl ?_)
            refine l_op (x_p (pv_and (.n rfl) rfl rfl rfl (fun _ => ⟨rfl, fun hc => by first | rfl | (rw [hc]; rfl) | simp_all⟩)) rfl rfl ?_)
            refine p_mv rfl rfl ?_
            refine l_op (x_r (q_lda ta_62 (.s rfl rfl rfl) rfl rfl (by first | exact fun _ => rfl | exact id | exact fun h => (Bool.and_eq_true_iff.1 h).1 | simp_all) (by exact (Tk.all rfl))) rfl rfl ?_)
            refine l_op (x_r (q_lda ta_62 (.s rfl rfl rfl) rfl rfl (by first | exact fun _ => rfl | exact id | exact fun h => (Bool.and_eq_true_iff.1 h).1 | simp_all) (by exact (Tk.all rfl))) rfl rfl ?_)
            refine l_op (x_p (pv_aeq (eq_Fault) (.s rfl rfl rfl) rfl rfl rfl (by refine fun h => ⟨?_, ?_⟩ <;> first | rfl | exact h | exact (Bool.and_eq_true_iff.1 h).1 | simp_all)) rfl rfl ?_)
            refine l_op (x_p (pv_and (.n rfl) rfl rfl rfl (fun _ => ⟨rfl, fun hc => by first | rfl | (rw [hc]; rfl) | simp_all⟩)) rfl rfl ?_)
            refine p_as rfl rfl ?_
            refine o_keep (.c 6 rfl .n) ?_
            refine r_retv hF rfl (.c (.t rfl) .n) ?_ ?_
            · first | exact Ent.rfl | (repeat (first | exact Ent.rfl | refine Ent.c (SelB.ent) ?_ | refine Ent.c (SelS.ent) ?_ | refine Ent.cN ?_ | refine Ent.c (SelX.ent) ?_ | refine Ent.dropR ?_))
            · first | rfl | exact bool_eq (by simp)
          · simp at g5

theorem law_PlanOrder (M : Amb) (H : List HP) (v : Value) (l : List Want) (hl : Rd M [] v 2 (l.map rW)) (ws : List Int) (h6 : ws.length = 6) : FnV Try.prog M H 11 [v, .agg (ws.map vI).toArray] (.bool true) := by
  refine fn_intro Try.func11 rfl Try.ntmps11 rfl fun F hF => ?_
  have hA6 := applyL_len (l := l) h6
  have hR6 := applyL_len (l := l.reverse) h6
  have hB6 := applyL_len (l := l.reverse.map wapW) hA6
  have hpm := apply_perm (ws := ws) h6 (List.reverse_perm l).symm
  refine r_seq ?_
  refine r_region ?_
  refine p_box rfl rfl rfl fun b3 => ?_
  refine p_as rfl rfl ?_
  refine o_keep (.c 0 rfl (.c 3 rfl (.c 4 rfl .n))) ?_
  refine r_seq ?_
  refine r_seq ?_
  refine r_region ?_
  refine p_callv cf_36 (.n) rfl (law_planBegun _ _) ?_
  refine p_not rfl rfl ?_
  refine o_keep (.c 0 rfl (.c 3 rfl (.c 4 rfl (.c 15 rfl .n)))) ?_
  refine r_cond _ rfl (fun h1 => ?_) (fun h1 => ?_)
  · simp at h1
  · skip
    refine r_skip ?_
    refine r_seq ?_
    refine r_seq ?_
    refine r_region ?_
    refine p_mv rfl rfl ?_
    refine l_op (x_p (pv_lens hl.len ⟨_, Try.underlying57⟩ (.n rfl) rfl rfl rfl rfl (fun _ => rfl)) rfl rfl ?_)
    refine p_gtr rfl rfl rfl ?_
    refine o_keep (.c 0 rfl (.c 3 rfl (.c 4 rfl (.c 18 rfl .n)))) ?_
    refine r_cond _ rfl (fun h2 => ?_) (fun h2 => ?_)
    · skip
      refine r_seq ?_
      refine r_region ?_
      refine p_as rfl rfl ?_
      refine o_keep (.c 0 rfl (.c 3 rfl (.c 4 rfl .n))) ?_
      refine r_retv hF rfl (.c (.t rfl) .n) ?_ ?_
      · first | exact Ent.rfl | (repeat (first | exact Ent.rfl | refine Ent.c (SelB.ent) ?_ | refine Ent.c (SelS.ent) ?_ | refine Ent.cN ?_ | refine Ent.c (SelX.ent) ?_ | refine Ent.dropR ?_))
      · rfl
    · skip
      have hL := of_decide_eq_false h2
      refine r_skip ?_
      refine r_seq ?_
      refine r_region ?_
      refine p_as rfl rfl ?_
      refine p_as rfl rfl ?_
      refine o_keep (.c 0 rfl (.c 3 rfl (.c 4 rfl (.c 5 rfl (.c 6 rfl .n))))) ?_
      refine r_seq ?_
      refine r_seq ?_
      refine r_region ?_
      refine p_mv rfl rfl ?_
      refine l_op (x_p (pv_lens hl.len ⟨_, Try.underlying57⟩ (.n rfl) rfl rfl rfl rfl (fun _ => rfl)) rfl rfl ?_)
      refine p_sub rfl rfl (by omega) rfl ?_
      refine p_as rfl rfl ?_
      refine o_keep (.c 0 rfl (.c 3 rfl (.c 4 rfl (.c 5 rfl (.c 6 rfl (.c 7 rfl .n)))))) ?_
      refine r_block ?_
      refine r_loop_3 (fun (k : Nat) (mv bv : Value) => [(7, true, .int .i64 ((k : Int) - 1)), (5, true, mv), (6, true, bv)]) (.c 0 rfl (.c 3 rfl (.c 4 rfl .n))) (fun (k : Nat) (mv bv : Value) => sl mv 29 2 (((l.drop k).reverse).map rW) :: sl bv 29 2 (((l.drop k).reverse.map wapW).map rW) :: blk b3 (ws.map vI) 59 :: H) (fun (k : Nat) (mv bv : Value) => k ≤ l.length) (fun (k : Nat) (mv bv : Value) => k) (l.length) (.slice Option.none 0 0) (.slice Option.none 0 0) ?_ (.c 7 rfl (.c 5 rfl (.c 6 rfl .n))) ?_ (fun k mv bv hI => ?_)
      · exact Nat.le_refl _
      · simp only [List.drop_length, List.reverse_nil, List.map_nil]; first | exact Ent.rfl | (repeat (first | exact Ent.rfl | refine Ent.c (SelB.ent) ?_ | refine Ent.c (SelS.ent) ?_ | refine Ent.cN ?_ | refine Ent.c (SelX.ent) ?_ | refine Ent.dropR ?_))
      · skip
        refine r_seq ?_
        refine r_seq ?_
        refine r_region ?_
        refine p_mv rfl rfl ?_
        refine p_geq rfl rfl rfl ?_
        refine o_keep (.c 0 rfl (.c 3 rfl (.c 4 rfl (.c 5 rfl (.c 6 rfl (.c 7 rfl (.c 23 rfl .n))))))) ?_
        refine r_cond _ rfl (fun h3 => ?_) (fun h3 => ?_)
        · skip
          have hk1 : 1 ≤ k := by have := of_decide_eq_true h3; omega
          obtain ⟨w, hw⟩ := getlt (l := l) (i := k - 1) (by omega)
          have hrs := rev_step hw
          rw [show k - 1 + 1 = k by omega] at hrs
          refine r_skip ?_
          refine r_seq ?_
          refine r_block ?_
          refine r_seq ?_
          refine r_region ?_
          refine p_mv rfl rfl ?_
          refine p_mv rfl rfl ?_
          refine p_mv rfl rfl ?_
          refine p_idx Try.underlying57 (.ofA ta_29) hl (show ((k : Int) - 1) = ((k - 1 : Nat) : Int) by omega) (mapget hw) rfl rfl rfl ?_
          refine p_ldats 0 ta_29 (Rd.ent hl (by repeat (first | exact Ent.rfl | exact Ent.one Ent.h | exact Ent.one (SelS.ent) | exact Ent.nil | exact Ent.left | refine Ent.dropR ?_ | refine Ent.tr Ent.skip ?_))) (mapget hw) rfl rfl (.s (.s .z)) rfl ?_
          refine p_bslice1 Try.underlying57 (.ofA ta_29) zr_29 rfl rfl rfl rfl rfl rfl rfl fun b31 => ?_
          refine p_append Try.underlying57 el_29 rfl rfl rfl rfl rfl (Rd.blit rfl rfl) (by simp; omega) fun v32 => ?_
          refine o_rd v32 fun hr32 => ?_
          refine p_as rfl rfl ?_
          refine o_keep (.c 0 rfl (.c 3 rfl (.c 4 rfl (.c 5 rfl (.c 6 rfl (.c 7 rfl .n)))))) ?_
          refine r_plan (_) ([sl bv 29 2 (((l.drop k).reverse.map wapW).map rW)]) mo (.c 0 rfl (.c 3 rfl (.c 4 rfl (.c 5 rfl (.c 6 rfl (.c 7 rfl .n)))))) (SelS.ent) ?_
          refine qm_q (i := 0) (l := [.k 6]) rfl rfl rfl rfl (by kernel_rfl) rfl (fun He => PV.rq (pv_mv (.n rfl) rfl rfl (fun _ => rfl))) ?_
          refine qm_q (i := 1) (l := [.k 0]) rfl rfl rfl rfl (by kernel_rfl) rfl (fun He => PV.rq (pv_mv (.n rfl) rfl rfl (fun _ => rfl))) ?_
          refine qm_q (i := 2) (l := [.k 7]) rfl rfl rfl rfl (by kernel_rfl) rfl (fun He => PV.rq (pv_mv (.n rfl) rfl rfl (fun _ => rfl))) ?_
          refine qm_q (i := 3) (l := [.o 1, .o 2]) rfl rfl rfl rfl (by kernel_rfl) rfl (fun He => PV.rq (pv_idx Try.underlying57 (.ofA ta_29) hl (fun hg => ⟨(show ((k : Int) - 1) = ((k - 1 : Nat) : Int) by omega), (mapget hw)⟩) (.n rfl) rfl rfl rfl (fun _ => ⟨rfl, rfl⟩))) ?_
          refine qm_q (i := 4) (l := [.o 3]) rfl rfl rfl rfl (by kernel_rfl) rfl (fun He => PV.rq (pv_faat fa_29_0 (fun hg => Rd.sh hl (mapget hw)) (.n rfl) rfl rfl (fun _ => rfl))) ?_
          refine qm_q (i := 5) (l := [.o 4]) rfl rfl rfl rfl (by kernel_rfl) rfl (fun He => RV.rq (rv_ldat (j := 0) tc_3 (Rd.ent hl (by repeat (first | exact Ent.rfl | exact Ent.one Ent.h | exact Ent.one (SelS.ent) | exact Ent.nil | exact Ent.left | refine Ent.dropR ?_ | refine Ent.tr Ent.skip ?_))) (fun hg => (mapget hw)) (.n rfl) rfl rfl (fun _ => rfl) rfl (fun _ => rfl))) ?_
          refine qm_q (i := 6) (l := [.k 0]) rfl rfl rfl rfl (by kernel_rfl) rfl (fun He => PV.rq (pv_mv (.n rfl) rfl rfl (fun _ => rfl))) ?_
          refine qm_q (i := 7) (l := [.k 7]) rfl rfl rfl rfl (by kernel_rfl) rfl (fun He => PV.rq (pv_mv (.n rfl) rfl rfl (fun _ => rfl))) ?_
          refine qm_q (i := 8) (l := [.o 6, .o 7]) rfl rfl rfl rfl (by kernel_rfl) rfl (fun He => PV.rq (pv_idx Try.underlying57 (.ofA ta_29) hl (fun hg => ⟨(show ((k : Int) - 1) = ((k - 1 : Nat) : Int) by omega), (mapget hw)⟩) (.n rfl) rfl rfl rfl (fun _ => ⟨rfl, rfl⟩))) ?_
          refine qm_q (i := 9) (l := [.o 8]) rfl rfl rfl rfl (by kernel_rfl) rfl (fun He => PV.rq (pv_faat fa_29_1 (fun hg => Rd.sh hl (mapget hw)) (.n rfl) rfl rfl (fun _ => rfl))) ?_
          refine qm_q (i := 10) (l := [.o 9]) rfl rfl rfl rfl (by kernel_rfl) rfl (fun He => RV.rq (rv_ldat (j := 1) tc_3 (Rd.ent hl (by repeat (first | exact Ent.rfl | exact Ent.one Ent.h | exact Ent.one (SelS.ent) | exact Ent.nil | exact Ent.left | refine Ent.dropR ?_ | refine Ent.tr Ent.skip ?_))) (fun hg => (mapget hw)) (.n rfl) rfl rfl (fun _ => rfl) rfl (fun _ => rfl))) ?_
          refine qm_q (i := 11) (l := [.o 10]) rfl rfl rfl rfl (by kernel_rfl) rfl (fun He => PV.rq (pv_negw (.n rfl) rfl rfl (fun _ => rfl))) ?_
          refine qm_q (i := 12) (l := [.o 5, .o 11]) rfl rfl rfl rfl (by kernel_rfl) rfl (fun He => PV.rq (pv_build zr_29 pl_29 (.n rfl) rfl (.c rfl (fun _ => rfl) rfl rfl rfl (by repeat constructor) (.c rfl (fun _ => rfl) rfl rfl rfl (by repeat constructor) .n)))) ?_
          refine qm_bslice1 Try.underlying57 (.ofA ta_29) zr_29 rfl (i := 13) [.o 12] (by kernel_rfl) (by kernel_rfl) rfl rfl rfl rfl (by kernel_rfl) (by kernel_rfl) ⟨_, .n rfl, rfl⟩ rfl rfl rfl rfl rfl rfl fun b46 => ?_
          refine qa_append Try.underlying57 el_29 rfl rfl (i := 14) [.o 0, .o 13] (by kernel_rfl) (by kernel_rfl) rfl rfl rfl rfl (by kernel_rfl) (by kernel_rfl) ⟨_, .n rfl, rfl⟩ rfl rfl rfl (Rd.blit rfl rfl) (by simp; omega) fun v47 => ?_
          refine qm_rd v47 fun hr47 => ?_
          refine qm_q (i := 15) (l := [.o 14]) rfl rfl rfl rfl (by kernel_rfl) rfl (fun He => PV.rq (pv_as (.n rfl) rfl rfl (fun _ => rfl))) ?_
          refine qm_n (by kernel_rfl) (by kernel_rfl) (by kernel_rfl) (by kernel_rfl) (.c 0 rfl (.c 3 rfl (.c 4 rfl (.c 5 rfl (.c 6 rfl (.c 7 rfl .n)))))) ?_
          refine r_end ?_
          refine r_region ?_
          refine p_mv rfl rfl ?_
          refine p_sub rfl rfl (by omega) rfl ?_
          refine p_as rfl rfl ?_
          refine o_keep (.c 0 rfl (.c 3 rfl (.c 4 rfl (.c 5 rfl (.c 6 rfl (.c 7 rfl .n)))))) ?_
          rw [show ((k : Int) - 1 - 1) = ((k - 1 : Nat) : Int) - 1 by omega]
          refine r_back_3 (k - 1) (_) (_) ?_ ?_ (Keep.app (.c 7 rfl (.c 5 rfl (.c 6 rfl .n))) (.c 0 rfl (.c 3 rfl (.c 4 rfl .n)))) ?_
          · omega
          · omega
          · simp only [hrs, List.map_append, List.map_cons, List.map_nil]; first | exact Ent.rfl | (repeat (first | exact Ent.rfl | refine Ent.c (SelB.ent) ?_ | refine Ent.c (SelS.ent) ?_ | refine Ent.cN ?_ | refine Ent.c (SelX.ent) ?_ | refine Ent.dropR ?_))
        · skip
          obtain rfl : k = 0 := by have := of_decide_eq_false h3; omega
          refine r_exit rfl ?_
          refine r_seq ?_
          refine r_region ?_
          refine p_lda ta_59 rfl (by exact (Tk.all (by first | rfl | assumption | (simp only [List.drop_zero, List.length_map]; assumption) | (simp [*]; done)))) rfl ?_
          refine p_mv rfl rfl ?_
          refine p_callv cf_39 (.c rfl (.c rfl .n)) rfl (plan_Apply _ _ _ l ws hl.all (by omega) h6) ?_
          refine p_mv rfl rfl ?_
          refine p_ext rfl rfl rfl ?_
          refine p_ext rfl rfl rfl ?_
          refine p_alloc zr_59 rfl fun b8 => ?_
          refine p_alloc zr_62 rfl fun b9 => ?_
          refine p_store (.ofA ta_59) rfl rfl rfl (by first | rfl | exact (by first | rfl | assumption | (simp only [List.drop_zero, List.length_map]; assumption) | (simp [*]; done))) (by first | rfl | exact (by simp [vI, rF, Value.oneCell'])) (Ins.whole (by first | rfl | (simp only [List.length_map, List.length_cons, List.length_nil]; omega) | (simp [*]; done) | (simp [*]; rfl))) ?_
          refine p_store (.ofA ta_62) rfl rfl rfl (by first | rfl | exact rfl) (by first | rfl | exact (by simp [vI, rF, Value.oneCell'])) (Ins.whole (by first | rfl | (simp only [List.length_map, List.length_cons, List.length_nil]; omega) | (simp [*]; done) | (simp [*]; rfl))) ?_
          refine o_keep (.c 3 rfl (.c 4 rfl (.c 5 rfl (.c 6 rfl (.c 8 rfl (.c 9 rfl .n)))))) ?_
          refine r_seq ?_
          refine r_rd mv fun hm0 => ?_
          have hm := hm0.to (rows' := l.reverse.map rW) (by simp)
          simp only [List.drop_zero]
          refine r_region ?_
          refine p_lda ta_59 rfl (by exact (Tk.all (by first | rfl | assumption | (simp only [List.drop_zero, List.length_map]; assumption) | (simp [*]; done)))) rfl ?_
          refine p_mv rfl rfl ?_
          refine p_callv cf_39 (.c rfl (.c rfl .n)) rfl (plan_Apply _ _ _ l.reverse ws (Rd.ent hm (Ent.one SelS.ent)) (by simp; omega) h6) ?_
          refine p_mv rfl rfl ?_
          refine p_ext rfl rfl rfl ?_
          refine p_ext rfl rfl rfl ?_
          refine p_alloc zr_59 rfl fun b10 => ?_
          refine p_alloc zr_62 rfl fun b11 => ?_
          refine p_store (.ofA ta_59) rfl rfl rfl (by first | rfl | exact (by first | rfl | assumption | (simp only [List.drop_zero, List.length_map]; assumption) | (simp [*]; done))) (by first | rfl | exact (by simp [vI, rF, Value.oneCell'])) (Ins.whole (by first | rfl | (simp only [List.length_map, List.length_cons, List.length_nil]; omega) | (simp [*]; done) | (simp [*]; rfl))) ?_
          refine p_store (.ofA ta_62) rfl rfl rfl (by first | rfl | exact rfl) (by first | rfl | exact (by simp [vI, rF, Value.oneCell'])) (Ins.whole (by first | rfl | (simp only [List.length_map, List.length_cons, List.length_nil]; omega) | (simp [*]; done) | (simp [*]; rfl))) ?_
          refine o_keep (.c 3 rfl (.c 4 rfl (.c 6 rfl (.c 8 rfl (.c 9 rfl (.c 10 rfl (.c 11 rfl .n))))))) ?_
          refine r_seq ?_
          refine r_seq ?_
          refine r_region ?_
          refine p_fa fa_62_0 rfl rfl ?_
          refine p_ldc tc_3 rfl (by rfl) rfl ?_
          refine p_eql rfl rfl rfl ?_
          refine p_fa fa_62_0 rfl rfl ?_
          refine p_ldc tc_3 rfl (by rfl) rfl ?_
          refine p_eql rfl rfl rfl ?_
          refine l_op (x_p (pv_bne Try.underlying4 (.n rfl) rfl rfl rfl (fun _ => ⟨rfl, rfl⟩)) rfl rfl ?_)
          refine p_mv rfl rfl ?_
          refine l_op (x_r (q_lda ta_59 (.s rfl rfl rfl) rfl rfl (by first | exact fun _ => rfl | exact id | exact fun h => (Bool.and_eq_true_iff.1 h).1 | simp_all) (by exact (Tk.all (by first | rfl | assumption | (simp only [List.drop_zero, List.length_map]; assumption) | (simp [*]; done))))) rfl rfl ?_)
          refine l_op (x_r (q_lda ta_59 (.s rfl rfl rfl) rfl rfl (by first | exact fun _ => rfl | exact id | exact fun h => (Bool.and_eq_true_iff.1 h).1 | simp_all) (by exact (Tk.all (by first | rfl | assumption | (simp only [List.drop_zero, List.length_map]; assumption) | (simp [*]; done))))) rfl rfl ?_)
          refine l_op (x_p (pv_ane (eq_World (by first | rfl | assumption | (simp [*]; done)) (by first | rfl | assumption | (simp [*]; done))) (.s rfl rfl rfl) rfl rfl rfl (by refine fun h => ⟨?_, ?_⟩ <;> first | rfl | exact h | exact (Bool.and_eq_true_iff.1 h).1 | simp_all)) rfl rfl ?_)
          refine l_op (x_p (pv_or (.n rfl) rfl rfl rfl (fun _ => ⟨rfl, fun hc => by first | rfl | (rw [hc]; rfl) | simp_all⟩)) rfl rfl ?_)
          refine o_keep (.c 3 rfl (.c 4 rfl (.c 6 rfl (.c 8 rfl (.c 9 rfl (.c 71 rfl .n)))))) ?_
          refine r_cond _ rfl (fun h4 => ?_) (fun h4 => ?_)
          · exfalso; simp [hpm.1, hpm.2] at h4
          · skip
            refine r_skip ?_
            refine r_seq ?_
            refine r_seq ?_
            refine r_region ?_
            refine p_fa fa_62_0 rfl rfl ?_
            refine p_ldc tc_3 rfl (by rfl) rfl ?_
            refine p_neq rfl rfl rfl ?_
            refine o_keep (.c 3 rfl (.c 4 rfl (.c 6 rfl (.c 8 rfl (.c 74 rfl .n))))) ?_
            refine r_cond _ rfl (fun h5 => ?_) (fun h5 => ?_)
            · skip
              have hne : (applyL ws l).2.code ≠ 0 := by simpa using h5
              have hz := applyL_z h6 hne
              refine r_seq ?_
              refine r_region ?_
              refine p_lda ta_59 rfl (by exact (Tk.all (by first | rfl | assumption | (simp only [List.drop_zero, List.length_map]; assumption) | (simp [*]; done)))) rfl ?_
              refine l_op (x_p (pv_buildA zr_59 Try.underlying59 (.ofC tc_3) (.n rfl) rfl (.n)) rfl rfl ?_)
              refine l_op (x_p (pv_aeq (eq_World (vs := z6) hA6 rfl) (.n rfl) rfl rfl rfl (fun _ => ⟨rfl, rfl⟩)) rfl rfl ?_)
              refine p_as rfl rfl ?_
              refine o_keep (.c 3 rfl (.c 4 rfl (.c 6 rfl (.c 8 rfl .n)))) ?_
              refine r_retv hF rfl (.c (.t rfl) .n) ?_ ?_
              · first | exact Ent.rfl | (repeat (first | exact Ent.rfl | refine Ent.c (SelB.ent) ?_ | refine Ent.c (SelS.ent) ?_ | refine Ent.cN ?_ | refine Ent.c (SelX.ent) ?_ | refine Ent.dropR ?_))
              · exact bool_eq (by rw [hz]; rfl)
            · skip
              have hc0 : (applyL ws l).2.code = 0 := by simpa using h5
              have hmp : l.reverse.map wapW = l.reverse.map nW := wap_map fun w hw => (applyL_yes h6 hc0).2.2.1.1 w (List.mem_reverse.1 hw)
              have hbk := apply_back (m := l.reverse.map nW) h6 hc0 ((List.reverse_perm l).symm.map _)
              refine r_skip ?_
              refine r_seq ?_
              refine r_rd bv fun hb2 => ?_
              refine r_region ?_
              refine p_lda ta_59 rfl (by exact (Tk.all (by first | rfl | assumption | (simp only [List.drop_zero, List.length_map]; assumption) | (simp [*]; done)))) rfl ?_
              refine p_mv rfl rfl ?_
              refine p_callv cf_39 (.c rfl (.c rfl .n)) rfl (plan_Apply _ _ _ (l.reverse.map wapW) (applyL ws l).1 (Rd.ent hb2 (Ent.one SelS.ent)) (by simp; omega) hA6) ?_
              refine p_mv rfl rfl ?_
              refine p_ext rfl rfl rfl ?_
              refine p_ext rfl rfl rfl ?_
              refine p_alloc zr_59 rfl fun b12 => ?_
              refine p_alloc zr_62 rfl fun b13 => ?_
              refine p_store (.ofA ta_59) rfl rfl rfl (by first | rfl | exact (by first | rfl | assumption | (simp only [List.drop_zero, List.length_map]; assumption) | (simp [*]; done))) (by first | rfl | exact (by simp [vI, rF, Value.oneCell'])) (Ins.whole (by first | rfl | (simp only [List.length_map, List.length_cons, List.length_nil]; omega) | (simp [*]; done) | (simp [*]; rfl))) ?_
              refine p_store (.ofA ta_62) rfl rfl rfl (by first | rfl | exact rfl) (by first | rfl | exact (by simp [vI, rF, Value.oneCell'])) (Ins.whole (by first | rfl | (simp only [List.length_map, List.length_cons, List.length_nil]; omega) | (simp [*]; done) | (simp [*]; rfl))) ?_
              refine o_keep (.c 3 rfl (.c 4 rfl (.c 12 rfl (.c 13 rfl .n)))) ?_
              refine r_seq ?_
              refine r_region ?_
              refine p_fa fa_62_0 rfl rfl ?_
              refine p_ldc tc_3 rfl (by rfl) rfl ?_
              refine p_eql rfl rfl rfl ?_
              refine p_mv rfl rfl ?_
              refine l_op (x_r (q_lda ta_59 (.s rfl rfl rfl) rfl rfl (by first | exact fun _ => rfl | exact id | exact fun h => (Bool.and_eq_true_iff.1 h).1 | simp_all) (by exact (Tk.all (by first | rfl | assumption | (simp only [List.drop_zero, List.length_map]; assumption) | (simp [*]; done))))) rfl rfl ?_)
              refine l_op (x_r (q_lda ta_59 (.s rfl rfl rfl) rfl rfl (by first | exact fun _ => rfl | exact id | exact fun h => (Bool.and_eq_true_iff.1 h).1 | simp_all) (by exact (Tk.all (by first | rfl | assumption | (simp only [List.drop_zero, List.length_map]; assumption) | (simp [*]; done))))) rfl rfl ?_)
              refine l_op (x_p (pv_aeq (eq_World (by first | rfl | assumption | (simp [*]; done)) (by first | rfl | assumption | (simp [*]; done))) (.s rfl rfl rfl) rfl rfl rfl (by refine fun h => ⟨?_, ?_⟩ <;> first | rfl | exact h | exact (Bool.and_eq_true_iff.1 h).1 | simp_all)) rfl rfl ?_)
              refine l_op (x_p (pv_and (.n rfl) rfl rfl rfl (fun _ => ⟨rfl, fun hc => by first | rfl | (rw [hc]; rfl) | simp_all⟩)) rfl rfl ?_)
              refine p_as rfl rfl ?_
              refine o_keep (.c 4 rfl .n) ?_
              refine r_retv hF rfl (.c (.t rfl) .n) ?_ ?_
              · first | exact Ent.rfl | (repeat (first | exact Ent.rfl | refine Ent.c (SelB.ent) ?_ | refine Ent.c (SelS.ent) ?_ | refine Ent.cN ?_ | refine Ent.c (SelX.ent) ?_ | refine Ent.dropR ?_))
              · exact bool_eq (by rw [hmp, hbk]; simp)

def vB (b : Bool) : Value := .bool b
structure HasI (l : List Want) (k : Nat) (m : List Want) (hs : List Bool) : Prop where
  len : hs.length = 3
  old : ∀ w ∈ l, w.ctr < k → hs.getD (shopOf w.ctr).toNat false = true
  new : ∀ w ∈ m, w.ctr = k → hs.getD (shopOf w.ctr).toNat false = true
theorem getD_setB (hs : List Bool) (i j : Nat) (h : i < hs.length) : (hs.set i true).getD j false = (decide (i = j) || hs.getD j false) := by
  simp only [List.getD_eq_getElem?_getD, List.getElem?_set]
  by_cases e : i = j
  · subst e; simp [h]
  · simp [e]
theorem HasI.hit {l m : List Want} {k i : Nat} {w : Want} {hs : List Bool} (h : HasI l k (l.take i) hs) (hw : l[i]? = some w) (e : w.ctr = k) (h0 : 0 ≤ shopOf (k : Int)) (h3 : shopOf (k : Int) < 3) : HasI l k (l.take (i + 1)) (hs.set (shopOf (k : Int)).toNat true) := by
  have hlt : (shopOf (k : Int)).toNat < hs.length := by rw [h.len]; omega
  refine ⟨by rw [List.length_set]; exact h.len, fun x hx hk => ?_, fun x hx hk => ?_⟩
  · rw [getD_setB _ _ _ hlt, h.old x hx hk]; simp
  · rw [getD_setB _ _ _ hlt, hk]; simp
theorem HasI.miss {l m : List Want} {k i : Nat} {w : Want} {hs : List Bool} (h : HasI l k (l.take i) hs) (hw : l[i]? = some w) (e : ¬ w.ctr = k) : HasI l k (l.take (i + 1)) hs := by
  refine ⟨h.len, h.old, fun x hx hk => ?_⟩
  rw [List.take_add_one, hw] at hx
  rcases List.mem_append.1 hx with hx | hx
  · exact h.new x hx hk
  · simp at hx; subst hx; exact absurd hk e
theorem HasI.next {l : List Want} {k i : Nat} {hs : List Bool} (h : HasI l k (l.take i) hs) (hi : l.length ≤ i) : HasI l (k + 1) [] hs := by
  rw [List.take_of_length_le hi] at h
  refine ⟨h.len, fun x hx hk => ?_, fun x hx => by cases hx⟩
  by_cases e : x.ctr = k
  · exact h.new x hx e
  · exact h.old x hx (by omega)
theorem bget {hs : List Bool} {i : Nat} (h : i < hs.length) : (hs.map vB)[i]? = some (.bool (hs.getD i false)) := by rw [List.getElem?_map, getDs (d := false) h]; rfl

theorem law_PlanApart (M : Amb) (H : List HP) (v : Value) (l : List Want) (hl : Rd M [] v 2 (l.map rW)) (ws : List Int) (h6 : ws.length = 6) (hr : ∀ n ∈ ws, -9223372036854775808 ≤ n ∧ n ≤ 9223372036854775807) : FnV Try.prog M H 12 [v, .agg (ws.map vI).toArray] (.bool true) := by
  refine fn_intro Try.func12 rfl Try.ntmps12 rfl fun F hF => ?_
  have hA6 := applyL_len (l := l) h6
  have hS := shopsL_len l
  refine r_seq ?_
  refine r_region ?_
  refine p_box rfl rfl rfl fun b3 => ?_
  refine p_as rfl rfl ?_
  refine o_keep (.c 0 rfl (.c 3 rfl (.c 4 rfl .n))) ?_
  refine r_seq ?_
  refine r_seq ?_
  refine r_region ?_
  refine p_callv cf_36 (.n) rfl (law_planBegun _ _) ?_
  refine p_not rfl rfl ?_
  refine o_keep (.c 0 rfl (.c 3 rfl (.c 4 rfl (.c 14 rfl .n)))) ?_
  refine r_cond _ rfl (fun h1 => ?_) (fun h1 => ?_)
  · simp at h1
  · skip
    refine r_skip ?_
    refine r_seq ?_
    refine r_seq ?_
    refine r_region ?_
    refine p_mv rfl rfl ?_
    refine l_op (x_p (pv_lens hl.len ⟨_, Try.underlying57⟩ (.n rfl) rfl rfl rfl rfl (fun _ => rfl)) rfl rfl ?_)
    refine p_gtr rfl rfl rfl ?_
    refine o_keep (.c 0 rfl (.c 3 rfl (.c 4 rfl (.c 17 rfl .n)))) ?_
    refine r_cond _ rfl (fun h2 => ?_) (fun h2 => ?_)
    · skip
      refine r_seq ?_
      refine r_region ?_
      refine p_as rfl rfl ?_
      refine o_keep (.c 0 rfl (.c 3 rfl (.c 4 rfl .n))) ?_
      refine r_retv hF rfl (.c (.t rfl) .n) ?_ ?_
      · first | exact Ent.rfl | (repeat (first | exact Ent.rfl | refine Ent.c (SelB.ent) ?_ | refine Ent.c (SelS.ent) ?_ | refine Ent.cN ?_ | refine Ent.c (SelX.ent) ?_ | refine Ent.dropR ?_))
      · rfl
    · skip
      have hL := of_decide_eq_false h2
      refine r_skip ?_
      refine r_seq ?_
      refine r_region ?_
      refine p_lda ta_59 rfl (by exact (Tk.all (by first | rfl | assumption | (simp only [List.drop_zero, List.length_map]; assumption) | (simp [*]; done)))) rfl ?_
      refine p_mv rfl rfl ?_
      refine p_callv cf_39 (.c rfl (.c rfl .n)) rfl (plan_Apply _ _ _ l ws hl.all (by omega) h6) ?_
      refine p_mv rfl rfl ?_
      refine p_ext rfl rfl rfl ?_
      refine p_ext rfl rfl rfl ?_
      refine p_alloc zr_59 rfl fun b5 => ?_
      refine p_alloc zr_62 rfl fun b6 => ?_
      refine p_store (.ofA ta_59) rfl rfl rfl (by first | rfl | exact (by first | rfl | assumption | (simp only [List.drop_zero, List.length_map]; assumption) | (simp [*]; done))) (by first | rfl | exact (by simp [vI, rF, Value.oneCell'])) (Ins.whole (by first | rfl | (simp only [List.length_map, List.length_cons, List.length_nil]; omega) | (simp [*]; done) | (simp [*]; rfl))) ?_
      refine p_store (.ofA ta_62) rfl rfl rfl (by first | rfl | exact rfl) (by first | rfl | exact (by simp [vI, rF, Value.oneCell'])) (Ins.whole (by first | rfl | (simp only [List.length_map, List.length_cons, List.length_nil]; omega) | (simp [*]; done) | (simp [*]; rfl))) ?_
      refine o_keep (.c 0 rfl (.c 3 rfl (.c 4 rfl (.c 5 rfl (.c 6 rfl .n))))) ?_
      refine r_seq ?_
      refine r_seq ?_
      refine r_region ?_
      refine p_fa fa_62_0 rfl rfl ?_
      refine p_ldc tc_3 rfl (by rfl) rfl ?_
      refine p_neq rfl rfl rfl ?_
      refine o_keep (.c 0 rfl (.c 3 rfl (.c 4 rfl (.c 5 rfl (.c 26 rfl .n))))) ?_
      refine r_cond _ rfl (fun h3 => ?_) (fun h3 => ?_)
      · skip
        refine r_seq ?_
        refine r_region ?_
        refine p_as rfl rfl ?_
        refine o_keep (.c 0 rfl (.c 3 rfl (.c 4 rfl (.c 5 rfl .n)))) ?_
        refine r_retv hF rfl (.c (.t rfl) .n) ?_ ?_
        · first | exact Ent.rfl | (repeat (first | exact Ent.rfl | refine Ent.c (SelB.ent) ?_ | refine Ent.c (SelS.ent) ?_ | refine Ent.cN ?_ | refine Ent.c (SelX.ent) ?_ | refine Ent.dropR ?_))
        · rfl
      · skip
        have hc0 : (applyL ws l).2.code = 0 := by simpa using h3
        obtain ⟨hfit, hadd, hwok, hl0, hl4⟩ := applyL_yes h6 hc0
        have hdl : ∀ w ∈ l, -100 ≤ w.dl ∧ w.dl ≤ 100 := fun w hw => by have := wantF_ok (hwok.1 w hw); omega
        refine r_skip ?_
        refine r_seq ?_
        refine r_region ?_
        refine p_mv rfl rfl ?_
        refine p_calle cf_46 (.c rfl .n) rfl (plan_Shops _ [] _ l hl (by omega)) fun sv => ?_
        refine o_cat ?_
        refine o_rd sv fun hs => ?_
        refine p_as rfl rfl ?_
        refine o_keep (.c 0 rfl (.c 3 rfl (.c 4 rfl (.c 5 rfl (.c 7 rfl .n))))) ?_
        refine r_seq ?_
        refine r_region ?_
        refine p_alloc zr_70 rfl fun b8 => ?_
        refine o_keep (.c 0 rfl (.c 3 rfl (.c 4 rfl (.c 5 rfl (.c 7 rfl (.c 8 rfl .n)))))) ?_
        refine r_seq ?_
        refine r_seq ?_
        refine r_region ?_
        refine p_as rfl rfl ?_
        refine o_keep (.c 0 rfl (.c 3 rfl (.c 4 rfl (.c 5 rfl (.c 7 rfl (.c 8 rfl (.c 9 rfl .n))))))) ?_
        refine r_block ?_
        refine r_loop_2 (fun (k : Nat) (hb : List Bool) => [(9, true, .int .i64 (k : Int))]) (.c 0 rfl (.c 3 rfl (.c 4 rfl (.c 5 rfl (.c 7 rfl (.c 8 rfl .n)))))) (fun (k : Nat) (hb : List Bool) => blk b8 (hb.map vB) 70 :: sl sv 3 1 ((shopsL l).map rI) :: blk b6 (rF (applyL ws l).2) 62 :: blk b5 ((applyL ws l).1.map vI) 59 :: blk b3 (ws.map vI) 59 :: H) (fun (k : Nat) (hb : List Bool) => k ≤ 6 ∧ HasI l k [] hb) (fun (k : Nat) (hb : List Bool) => 6 - k) (0) ([false, false, false]) ?_ (.c 9 rfl .n) ?_ (fun k hb hI => ?_)
        · exact ⟨by omega, rfl, fun w hw h0 => (by have := wantF_ok (hwok.1 w hw); omega), fun w hw => (by cases hw)⟩
        · first | exact Ent.rfl | (repeat (first | exact Ent.rfl | refine Ent.c (SelB.ent) ?_ | refine Ent.c (SelS.ent) ?_ | refine Ent.cN ?_ | refine Ent.c (SelX.ent) ?_ | refine Ent.dropR ?_))
        · skip
          obtain ⟨hk7, hI⟩ := hI
          refine r_seq ?_
          refine r_seq ?_
          refine r_region ?_
          refine p_mv rfl rfl ?_
          refine p_lss rfl rfl rfl ?_
          refine o_keep (.c 0 rfl (.c 3 rfl (.c 4 rfl (.c 5 rfl (.c 7 rfl (.c 8 rfl (.c 9 rfl (.c 30 rfl .n)))))))) ?_
          refine r_cond _ rfl (fun h4 => ?_) (fun h4 => ?_)
          · skip
            have hk6 : k < 6 := by have := of_decide_eq_true h4; omega
            have hapt := apart_at h6 hc0 hk6
            have hrk := hr _ (List.mem_of_getElem? (getDs (d := 0) (show k < ws.length by omega)))
            refine r_skip ?_
            refine r_seq ?_
            refine r_block ?_
            refine r_seq ?_
            refine r_region ?_
            refine p_as rfl rfl ?_
            refine o_keep (.c 0 rfl (.c 3 rfl (.c 4 rfl (.c 5 rfl (.c 7 rfl (.c 8 rfl (.c 9 rfl (.c 10 rfl .n)))))))) ?_
            refine r_seq ?_
            refine r_seq ?_
            refine r_region ?_
            refine p_as rfl rfl ?_
            refine o_keep (.c 0 rfl (.c 3 rfl (.c 4 rfl (.c 5 rfl (.c 7 rfl (.c 8 rfl (.c 9 rfl (.c 10 rfl (.c 11 rfl .n))))))))) ?_
            refine r_block ?_
            refine r_loop_3 (fun (i : Nat) (d : Int) (hb1 : List Bool) => [(11, true, .int .i64 (i : Int)), (10, true, .int .i64 d)]) (.c 0 rfl (.c 3 rfl (.c 4 rfl (.c 5 rfl (.c 7 rfl (.c 8 rfl (.c 9 rfl .n))))))) (fun (i : Nat) (d : Int) (hb1 : List Bool) => blk b8 (hb1.map vB) 70 :: sl sv 3 1 ((shopsL l).map rI) :: blk b6 (rF (applyL ws l).2) 62 :: blk b5 ((applyL ws l).1.map vI) 59 :: blk b3 (ws.map vI) 59 :: H) (fun (i : Nat) (d : Int) (hb1 : List Bool) => i ≤ l.length ∧ d = addOf (l.take i) k ∧ HasI l k (l.take i) hb1) (fun (i : Nat) (d : Int) (hb1 : List Bool) => l.length - i) (0) (0) (hb) ?_ (.c 11 rfl (.c 10 rfl .n)) ?_ (fun i d hb1 hI => ?_)
            · exact ⟨Nat.zero_le _, rfl, hI⟩
            · first | exact Ent.rfl | (repeat (first | exact Ent.rfl | refine Ent.c (SelB.ent) ?_ | refine Ent.c (SelS.ent) ?_ | refine Ent.cN ?_ | refine Ent.c (SelX.ent) ?_ | refine Ent.dropR ?_))
            · skip
              obtain ⟨hil, hd, hI2⟩ := hI
              refine r_seq ?_
              refine r_seq ?_
              refine r_region ?_
              refine p_mv rfl rfl ?_
              refine p_mv rfl rfl ?_
              refine l_op (x_p (pv_lens hl.len ⟨_, Try.underlying57⟩ (.n rfl) rfl rfl rfl rfl (fun _ => rfl)) rfl rfl ?_)
              refine p_lss rfl rfl rfl ?_
              refine o_keep (.c 0 rfl (.c 3 rfl (.c 4 rfl (.c 5 rfl (.c 7 rfl (.c 8 rfl (.c 9 rfl (.c 10 rfl (.c 11 rfl (.c 36 rfl .n)))))))))) ?_
              refine r_cond _ rfl (fun h5 => ?_) (fun h5 => ?_)
              · skip
                have hi : i < l.length := by have := of_decide_eq_true h5; omega
                obtain ⟨w, hw⟩ := getlt hi
                have hdw := hdl w (List.mem_of_getElem? hw)
                have hsum := addOf_take hw (k : Int)
                refine r_skip ?_
                refine r_seq ?_
                refine r_block ?_
                refine r_seq ?_
                refine r_region ?_
                refine p_mv rfl rfl ?_
                refine p_mv rfl rfl ?_
                refine p_idx Try.underlying57 (.ofA ta_29) hl rfl (mapget hw) rfl rfl rfl ?_
                refine p_faat fa_29_0 (Rd.sh hl (mapget hw)) rfl rfl ?_
                refine p_ldat 0 tc_3 (Rd.ent hl (by repeat (first | exact Ent.rfl | exact Ent.one Ent.h | exact Ent.one (SelS.ent) | exact Ent.nil | exact Ent.left | refine Ent.dropR ?_ | refine Ent.tr Ent.skip ?_))) (mapget hw) rfl rfl rfl rfl ?_
                refine p_mv rfl rfl ?_
                refine p_eql rfl rfl rfl ?_
                refine o_keep (.c 0 rfl (.c 3 rfl (.c 4 rfl (.c 5 rfl (.c 7 rfl (.c 8 rfl (.c 9 rfl (.c 10 rfl (.c 11 rfl (.c 45 rfl .n)))))))))) ?_
                refine r_cond _ rfl (fun h6 => ?_) (fun h6 => ?_)
                · skip
                  have hck : w.ctr = k := of_decide_eq_true h6
                  have hsw := shopsL_has (List.mem_of_getElem? hw) (hwok.1 w (List.mem_of_getElem? hw))
                  rw [hck] at hsw
                  rw [if_pos hck] at hsum
                  have hbd := addOf_bound (l := l.take i) (fun x hx => hdl x (List.mem_of_mem_take hx)) (k : Int)
                  have htl := take_len (l := l) (i := i) (by omega)
                  refine r_seq ?_
                  refine r_region ?_
                  refine p_mv rfl rfl ?_
                  refine p_mv rfl rfl ?_
                  refine p_mv rfl rfl ?_
                  refine p_idx Try.underlying57 (.ofA ta_29) hl rfl (mapget hw) rfl rfl rfl ?_
                  refine p_faat fa_29_1 (Rd.sh hl (mapget hw)) rfl rfl ?_
                  refine p_ldat 1 tc_3 (Rd.ent hl (by repeat (first | exact Ent.rfl | exact Ent.one Ent.h | exact Ent.one (SelS.ent) | exact Ent.nil | exact Ent.left | refine Ent.dropR ?_ | refine Ent.tr Ent.skip ?_))) (mapget hw) rfl rfl rfl rfl ?_
                  refine p_add rfl rfl (by first | omega | (have := hapt.2.2; omega)) rfl ?_
                  refine p_as rfl rfl ?_
                  refine o_keep (.c 0 rfl (.c 3 rfl (.c 4 rfl (.c 5 rfl (.c 7 rfl (.c 8 rfl (.c 9 rfl (.c 10 rfl (.c 11 rfl .n))))))))) ?_
                  refine r_seq ?_
                  refine r_seq ?_
                  refine r_region ?_
                  refine p_mv rfl rfl ?_
                  refine p_mv rfl rfl ?_
                  refine p_callv cf_41 (.c rfl .n) rfl (plan_Shop _ _ _) ?_
                  refine p_callv cf_48 (.c rfl (.c rfl .n)) rfl (ref_In _ _ _ (shopsL l) _ hs.own (by omega)) ?_
                  refine p_not rfl rfl ?_
                  refine o_keep (.c 0 rfl (.c 3 rfl (.c 4 rfl (.c 5 rfl (.c 7 rfl (.c 8 rfl (.c 9 rfl (.c 10 rfl (.c 11 rfl (.c 57 rfl .n)))))))))) ?_
                  refine r_cond _ rfl (fun h7 => ?_) (fun h7 => ?_)
                  · exfalso; simp [hsw.1] at h7
                  · skip
                    refine r_skip ?_
                    refine r_region ?_
                    refine p_mv rfl rfl ?_
                    refine p_callv cf_42 (.c rfl .n) rfl (ref_ShopOf _ _ _) ?_
                    refine l_op (x_p (pv_aidx (i := (shopOf (k : Int)).toNat) Try.underlying70 (.ofC tc_4) (fun hg => ⟨by omega, by omega⟩) (.n rfl) rfl rfl rfl (fun _ => ⟨rfl, rfl⟩)) rfl rfl ?_)
                    refine p_store (.ofC tc_4) rfl rfl rfl rfl rfl (Ins.atm' (f := vB) (i := (shopOf (k : Int)).toNat) (by omega) (by have := hI2.len; omega)) ?_
                    refine o_keep (.c 0 rfl (.c 3 rfl (.c 4 rfl (.c 5 rfl (.c 7 rfl (.c 8 rfl (.c 9 rfl (.c 10 rfl (.c 11 rfl .n))))))))) ?_
                    refine r_end ?_
                    refine r_region ?_
                    refine p_mv rfl rfl ?_
                    refine p_add rfl rfl (by first | omega | (have := hapt.2.2; omega)) rfl ?_
                    refine p_as rfl rfl ?_
                    refine o_keep (.c 0 rfl (.c 3 rfl (.c 4 rfl (.c 5 rfl (.c 7 rfl (.c 8 rfl (.c 9 rfl (.c 10 rfl (.c 11 rfl .n))))))))) ?_
                    refine r_back_3 (i + 1) (_) (hb1.set (shopOf (k : Int)).toNat true) ?_ ?_ (Keep.app (.c 11 rfl (.c 10 rfl .n)) (.c 0 rfl (.c 3 rfl (.c 4 rfl (.c 5 rfl (.c 7 rfl (.c 8 rfl (.c 9 rfl .n)))))))) ?_
                    · exact ⟨by omega, by rw [hd, hsum], hI2.hit (m := []) hw hck hsw.2.1 hsw.2.2⟩
                    · omega
                    · first | exact Ent.rfl | (repeat (first | exact Ent.rfl | refine Ent.c (SelB.ent) ?_ | refine Ent.c (SelS.ent) ?_ | refine Ent.cN ?_ | refine Ent.c (SelX.ent) ?_ | refine Ent.dropR ?_))
                · skip
                  have hck : ¬ w.ctr = k := of_decide_eq_false h6
                  rw [if_neg hck] at hsum
                  refine r_skip ?_
                  refine r_end ?_
                  refine r_region ?_
                  refine p_mv rfl rfl ?_
                  refine p_add rfl rfl (by first | omega | (have := hapt.2.2; omega)) rfl ?_
                  refine p_as rfl rfl ?_
                  refine o_keep (.c 0 rfl (.c 3 rfl (.c 4 rfl (.c 5 rfl (.c 7 rfl (.c 8 rfl (.c 9 rfl (.c 10 rfl (.c 11 rfl .n))))))))) ?_
                  refine r_back_3 (i + 1) (d) (hb1) ?_ ?_ (Keep.app (.c 11 rfl (.c 10 rfl .n)) (.c 0 rfl (.c 3 rfl (.c 4 rfl (.c 5 rfl (.c 7 rfl (.c 8 rfl (.c 9 rfl .n)))))))) ?_
                  · exact ⟨by omega, by rw [hd, hsum]; omega, hI2.miss (m := []) hw hck⟩
                  · omega
                  · first | exact Ent.rfl | (repeat (first | exact Ent.rfl | refine Ent.c (SelB.ent) ?_ | refine Ent.c (SelS.ent) ?_ | refine Ent.cN ?_ | refine Ent.c (SelX.ent) ?_ | refine Ent.dropR ?_))
              · skip
                have hi : l.length ≤ i := by have := of_decide_eq_false h5; omega
                have hnx := hI2.next hi
                rw [List.take_of_length_le hi] at hd
                refine r_exit rfl ?_
                refine r_seq ?_
                refine r_plan _ [] mo (.c 0 rfl (.c 3 rfl (.c 4 rfl (.c 5 rfl (.c 7 rfl (.c 8 rfl (.c 9 rfl (.c 10 rfl .n)))))))) Ent.rfl ?_
                refine qm_q (i := 0) (l := [.k 9]) rfl rfl rfl rfl (by kernel_rfl) rfl (fun He => PV.rq (pv_mv (.n rfl) rfl rfl (fun _ => rfl))) ?_
                refine qm_q (i := 1) (l := [.k 5, .o 0]) rfl rfl rfl rfl (by kernel_rfl) rfl (fun He => PV.rq (pv_aidx (i := k) Try.underlying59 (.ofC tc_3) (fun hg => ⟨rfl, by omega⟩) (.n rfl) rfl rfl rfl (fun _ => ⟨rfl, rfl⟩))) ?_
                refine qm_q (i := 2) (l := [.o 1]) rfl rfl rfl rfl (by kernel_rfl) rfl (fun He => RV.rq (q_ldci (i := k) tc_3 (.n rfl) rfl rfl (fun _ => rfl) (by omega) (wget (by omega)))) ?_
                refine qm_q (i := 3) (l := [.k 9]) rfl rfl rfl rfl (by kernel_rfl) rfl (fun He => PV.rq (pv_mv (.n rfl) rfl rfl (fun _ => rfl))) ?_
                refine qm_q (i := 4) (l := [.k 3, .o 3]) rfl rfl rfl rfl (by kernel_rfl) rfl (fun He => PV.rq (pv_aidx (i := k) Try.underlying59 (.ofC tc_3) (fun hg => ⟨rfl, by omega⟩) (.n rfl) rfl rfl rfl (fun _ => ⟨rfl, rfl⟩))) ?_
                refine qm_q (i := 5) (l := [.o 4]) rfl rfl rfl rfl (by kernel_rfl) rfl (fun He => RV.rq (q_ldci (i := k) tc_3 (.n rfl) rfl rfl (fun _ => rfl) (by omega) (wget (by omega)))) ?_
                refine qm_q (i := 6) (l := [.k 10]) rfl rfl rfl rfl (by kernel_rfl) rfl (fun He => PV.rq (pv_mv (.n rfl) rfl rfl (fun _ => rfl))) ?_
                refine qm_q (i := 7) (l := [.o 5, .o 6]) rfl rfl rfl rfl (by kernel_rfl) rfl (fun He => PV.rq (pv_add (fun _ => by first | omega | (have := hapt.2.2; omega)) (.n rfl) rfl rfl rfl (fun _ => ⟨rfl, rfl⟩))) ?_
                refine qm_q (i := 8) (l := [.o 2, .o 7]) rfl rfl rfl rfl (by kernel_rfl) rfl (fun He => PV.rq (pv_neq (.n rfl) rfl rfl rfl (fun _ => ⟨rfl, rfl⟩))) ?_
                refine qm_q (i := 9) (l := [.o 8]) rfl rfl rfl rfl (by kernel_rfl) rfl (fun He => PV.rq (pv_mv (.n rfl) rfl rfl (fun _ => rfl))) ?_
                refine qm_q (i := 10) (l := [.k 10, .o 9]) rfl rfl rfl rfl (by kernel_rfl) rfl (fun He => PV.rq (pv_mv (.s rfl rfl rfl) rfl rfl (by first | exact fun _ => rfl | exact id | exact fun h => (Bool.and_eq_true_iff.1 h).1 | simp_all))) ?_
                refine qm_q (i := 11) (l := [.o 10, .o 9]) rfl rfl rfl rfl (by kernel_rfl) rfl (fun He => PV.rq (pv_neq (.s rfl rfl rfl) rfl rfl rfl (by refine fun h => ⟨?_, ?_⟩ <;> first | rfl | exact h | exact (Bool.and_eq_true_iff.1 h).1 | simp_all))) ?_
                refine qm_q (i := 12) (l := [.o 11, .o 9]) rfl rfl rfl rfl (by kernel_rfl) rfl (fun He => PV.rq (pv_mv (.s rfl rfl rfl) rfl rfl (by first | exact fun _ => rfl | exact id | exact fun h => (Bool.and_eq_true_iff.1 h).1 | simp_all))) ?_
                refine qm_q (i := 13) (l := [.k 9, .o 12]) rfl rfl rfl rfl (by kernel_rfl) rfl (fun He => PV.rq (pv_mv (.s rfl rfl rfl) rfl rfl (by first | exact fun _ => rfl | exact id | exact fun h => (Bool.and_eq_true_iff.1 h).1 | simp_all))) ?_
                refine qm_q (i := 14) (l := [.k 5, .o 13, .o 12]) rfl rfl rfl rfl (by kernel_rfl) rfl (fun He => PV.rq (pv_aidx (i := k) Try.underlying59 (.ofC tc_3) (fun hg => ⟨rfl, by omega⟩) (.s rfl rfl rfl) rfl rfl rfl (by refine fun h => ⟨?_, ?_⟩ <;> first | rfl | exact h | exact (Bool.and_eq_true_iff.1 h).1 | simp_all))) ?_
                refine qm_q (i := 15) (l := [.o 14, .o 12]) rfl rfl rfl rfl (by kernel_rfl) rfl (fun He => RV.rq (q_ldci (i := k) tc_3 (.s rfl rfl rfl) rfl rfl (by first | exact fun _ => rfl | exact id | exact fun h => (Bool.and_eq_true_iff.1 h).1 | simp_all) (by omega) (wget (by omega)))) ?_
                refine qm_q (i := 16) (l := [.o 15, .o 12]) rfl rfl rfl rfl (by kernel_rfl) rfl (fun He => PV.rq (pv_lss (.s rfl rfl rfl) rfl rfl rfl (by refine fun h => ⟨?_, ?_⟩ <;> first | rfl | exact h | exact (Bool.and_eq_true_iff.1 h).1 | simp_all))) ?_
                refine qm_q (i := 17) (l := [.o 16, .o 12]) rfl rfl rfl rfl (by kernel_rfl) rfl (fun He => PV.rq (pv_mv (.s rfl rfl rfl) rfl rfl (by first | exact fun _ => rfl | exact id | exact fun h => (Bool.and_eq_true_iff.1 h).1 | simp_all))) ?_
                refine qm_q (i := 18) (l := [.k 9, .o 17]) rfl rfl rfl rfl (by kernel_rfl) rfl (fun He => PV.rq (pv_mv (.s rfl rfl rfl) rfl rfl (by first | exact fun _ => rfl | exact id | exact fun h => (Bool.and_eq_true_iff.1 h).1 | simp_all))) ?_
                refine qm_q (i := 19) (l := [.k 5, .o 18, .o 17]) rfl rfl rfl rfl (by kernel_rfl) rfl (fun He => PV.rq (pv_aidx (i := k) Try.underlying59 (.ofC tc_3) (fun hg => ⟨rfl, by omega⟩) (.s rfl rfl rfl) rfl rfl rfl (by refine fun h => ⟨?_, ?_⟩ <;> first | rfl | exact h | exact (Bool.and_eq_true_iff.1 h).1 | simp_all))) ?_
                refine qm_q (i := 20) (l := [.o 19, .o 17]) rfl rfl rfl rfl (by kernel_rfl) rfl (fun He => RV.rq (q_ldci (i := k) tc_3 (.s rfl rfl rfl) rfl rfl (by first | exact fun _ => rfl | exact id | exact fun h => (Bool.and_eq_true_iff.1 h).1 | simp_all) (by omega) (wget (by omega)))) ?_
                refine qm_q (i := 21) (l := [.o 20, .o 17]) rfl rfl rfl rfl (by kernel_rfl) rfl (fun He => PV.rq (pv_gtr (.s rfl rfl rfl) rfl rfl rfl (by refine fun h => ⟨?_, ?_⟩ <;> first | rfl | exact h | exact (Bool.and_eq_true_iff.1 h).1 | simp_all))) ?_
                refine qm_q (i := 22) (l := [.o 17, .o 21, .o 12]) rfl rfl rfl rfl (by kernel_rfl) rfl (fun He => PV.rq (pv_or (.s rfl rfl rfl) rfl rfl rfl (by intro hg; refine ⟨?_, fun hc => ?_⟩ <;> first | rfl | (rw [hc]; rfl) | simp_all))) ?_
                refine qm_q (i := 23) (l := [.o 12, .o 22, .o 9]) rfl rfl rfl rfl (by kernel_rfl) rfl (fun He => PV.rq (pv_and (.s rfl rfl rfl) rfl rfl rfl (by intro hg; refine ⟨?_, fun hc => ?_⟩ <;> first | rfl | (rw [hc]; rfl) | simp_all))) ?_
                refine qm_q (i := 24) (l := [.o 9, .o 23]) rfl rfl rfl rfl (by kernel_rfl) rfl (fun He => PV.rq (pv_or (.n rfl) rfl rfl rfl (fun _ => ⟨rfl, fun hc => by first | rfl | (rw [hc]; rfl) | simp_all⟩))) ?_
                refine qm_n (by kernel_rfl) (by kernel_rfl) (by kernel_rfl) (by kernel_rfl) (.c 0 rfl (.c 3 rfl (.c 4 rfl (.c 5 rfl (.c 7 rfl (.c 8 rfl (.c 9 rfl (.c 85 rfl .n)))))))) ?_
                refine r_cond _ rfl (fun h8 => ?_) (fun h8 => ?_)
                · exfalso; simp only [hapt.1, Bool.or_eq_true, Bool.and_eq_true, Bool.not_eq_true', decide_eq_true_eq, decide_eq_false_iff_not] at h8; have ha := hapt.2.1; omega
                · skip
                  refine r_skip ?_
                  refine r_end ?_
                  refine r_region ?_
                  refine p_mv rfl rfl ?_
                  refine p_add rfl rfl (by first | omega | (have := hapt.2.2; omega)) rfl ?_
                  refine p_as rfl rfl ?_
                  refine o_keep (.c 0 rfl (.c 3 rfl (.c 4 rfl (.c 5 rfl (.c 7 rfl (.c 8 rfl (.c 9 rfl .n))))))) ?_
                  refine r_back_2 (k + 1) (hb1) ?_ ?_ (Keep.app (.c 9 rfl .n) (.c 0 rfl (.c 3 rfl (.c 4 rfl (.c 5 rfl (.c 7 rfl (.c 8 rfl .n))))))) ?_
                  · exact ⟨by omega, hnx⟩
                  · omega
                  · first | exact Ent.rfl | (repeat (first | exact Ent.rfl | refine Ent.c (SelB.ent) ?_ | refine Ent.c (SelS.ent) ?_ | refine Ent.cN ?_ | refine Ent.c (SelX.ent) ?_ | refine Ent.dropR ?_))
          · skip
            have hk6 : k = 6 := by have := of_decide_eq_false h4; omega
            refine r_exit rfl ?_
            refine r_seq ?_
            refine r_seq ?_
            refine r_region ?_
            refine p_as rfl rfl ?_
            refine o_keep (.c 4 rfl (.c 7 rfl (.c 8 rfl (.c 12 rfl .n)))) ?_
            refine r_block ?_
            have hIo := hI
            refine r_loop_1 (fun (i : Nat) => [(12, true, .int .i64 (i : Int))]) (.c 4 rfl (.c 7 rfl (.c 8 rfl .n))) (fun (i : Nat) => blk b8 (hb.map vB) 70 :: sl sv 3 1 ((shopsL l).map rI) :: blk b6 (rF (applyL ws l).2) 62 :: blk b5 ((applyL ws l).1.map vI) 59 :: blk b3 (ws.map vI) 59 :: H) (fun (i : Nat) => i ≤ (shopsL l).length) (fun (i : Nat) => (shopsL l).length - i) (0) ?_ (.c 12 rfl .n) ?_ (fun i hI => ?_)
            · exact Nat.zero_le _
            · first | exact Ent.rfl | (repeat (first | exact Ent.rfl | refine Ent.c (SelB.ent) ?_ | refine Ent.c (SelS.ent) ?_ | refine Ent.cN ?_ | refine Ent.c (SelX.ent) ?_ | refine Ent.dropR ?_))
            · skip
              have hil := hI
              have hI := hIo
              refine r_seq ?_
              refine r_seq ?_
              refine r_region ?_
              refine p_mv rfl rfl ?_
              refine p_mv rfl rfl ?_
              refine l_op (x_p (pv_lens (Rd.len hs) ⟨_, Try.underlying53⟩ (.n rfl) rfl rfl rfl rfl (fun _ => rfl)) rfl rfl ?_)
              refine p_lss rfl rfl rfl ?_
              refine o_keep (.c 4 rfl (.c 7 rfl (.c 8 rfl (.c 12 rfl (.c 89 rfl .n))))) ?_
              refine r_cond _ rfl (fun h9 => ?_) (fun h9 => ?_)
              · skip
                have hi : i < (shopsL l).length := by have := of_decide_eq_true h9; omega
                obtain ⟨x, hx⟩ := getlt hi
                obtain ⟨hx0, hx3, w, hwm, hws⟩ := shopsL_at hx
                obtain ⟨y, hy⟩ := getlt (l := shopsL l) (i := i - 1) (by omega)
                have hdead : hb.getD x.toNat false = true ∧ (0 < i → y < x) := ⟨by rw [← hws]; exact hI.old w hwm (by have := wantF_ok (hwok.1 w hwm); omega), fun h0 => shopsL_lt hy hx (by omega)⟩
                refine r_skip ?_
                refine r_seq ?_
                refine r_block ?_
                refine r_seq ?_
                refine r_plan _ [] mo (.c 4 rfl (.c 7 rfl (.c 8 rfl (.c 12 rfl .n)))) Ent.rfl ?_
                refine qm_q (i := 0) (l := [.k 7]) rfl rfl rfl rfl (by kernel_rfl) rfl (fun He => PV.rq (pv_mv (.n rfl) rfl rfl (fun _ => rfl))) ?_
                refine qm_q (i := 1) (l := [.k 12]) rfl rfl rfl rfl (by kernel_rfl) rfl (fun He => PV.rq (pv_mv (.n rfl) rfl rfl (fun _ => rfl))) ?_
                refine qm_q (i := 2) (l := [.o 0, .o 1]) rfl rfl rfl rfl (by kernel_rfl) rfl (fun He => PV.rq (pv_idx Try.underlying53 (.ofC tc_3) hs (fun hg => ⟨rfl, (mapget hx)⟩) (.n rfl) rfl rfl rfl (fun _ => ⟨rfl, rfl⟩))) ?_
                refine qm_q (i := 3) (l := [.o 2]) rfl rfl rfl rfl (by kernel_rfl) rfl (fun He => RV.rq (rv_ldat (j := 0) tc_3 (Rd.ent hs (by repeat (first | exact Ent.rfl | exact Ent.one Ent.h | exact Ent.one (SelS.ent) | exact Ent.nil | exact Ent.left | refine Ent.dropR ?_ | refine Ent.tr Ent.skip ?_))) (fun hg => (mapget hx)) (.n rfl) rfl rfl (fun _ => rfl) rfl (fun _ => rfl))) ?_
                refine qm_q (i := 4) (l := [.o 3]) rfl rfl rfl rfl (by kernel_rfl) rfl (fun He => PV.rq (pv_lss (.n rfl) rfl rfl rfl (fun _ => ⟨rfl, rfl⟩))) ?_
                refine qm_q (i := 5) (l := [.o 4]) rfl rfl rfl rfl (by kernel_rfl) rfl (fun He => PV.rq (pv_mv (.n rfl) rfl rfl (fun _ => rfl))) ?_
                refine qm_q (i := 6) (l := [.k 7, .o 5]) rfl rfl rfl rfl (by kernel_rfl) rfl (fun He => PV.rq (pv_mv (.s rfl rfl rfl) rfl rfl (by first | exact fun _ => rfl | exact id | exact fun h => (Bool.and_eq_true_iff.1 h).1 | simp_all))) ?_
                refine qm_q (i := 7) (l := [.k 12, .o 5]) rfl rfl rfl rfl (by kernel_rfl) rfl (fun He => PV.rq (pv_mv (.s rfl rfl rfl) rfl rfl (by first | exact fun _ => rfl | exact id | exact fun h => (Bool.and_eq_true_iff.1 h).1 | simp_all))) ?_
                refine qm_q (i := 8) (l := [.o 6, .o 7, .o 5]) rfl rfl rfl rfl (by kernel_rfl) rfl (fun He => PV.rq (pv_idx Try.underlying53 (.ofC tc_3) hs (fun hg => ⟨rfl, (mapget hx)⟩) (.s rfl rfl rfl) rfl rfl rfl (by refine fun h => ⟨?_, ?_⟩ <;> first | rfl | exact h | exact (Bool.and_eq_true_iff.1 h).1 | simp_all))) ?_
                refine qm_q (i := 9) (l := [.o 8, .o 5]) rfl rfl rfl rfl (by kernel_rfl) rfl (fun He => RV.rq (rv_ldat (j := 0) tc_3 (Rd.ent hs (by repeat (first | exact Ent.rfl | exact Ent.one Ent.h | exact Ent.one (SelS.ent) | exact Ent.nil | exact Ent.left | refine Ent.dropR ?_ | refine Ent.tr Ent.skip ?_))) (fun hg => (mapget hx)) (.s rfl rfl rfl) rfl rfl (by first | exact fun _ => rfl | exact id | exact fun h => (Bool.and_eq_true_iff.1 h).1 | simp_all) rfl (fun _ => rfl))) ?_
                refine qm_q (i := 10) (l := [.o 9, .o 5]) rfl rfl rfl rfl (by kernel_rfl) rfl (fun He => PV.rq (pv_geq (.s rfl rfl rfl) rfl rfl rfl (by refine fun h => ⟨?_, ?_⟩ <;> first | rfl | exact h | exact (Bool.and_eq_true_iff.1 h).1 | simp_all))) ?_
                refine qm_q (i := 11) (l := [.o 5, .o 10]) rfl rfl rfl rfl (by kernel_rfl) rfl (fun He => PV.rq (pv_or (.n rfl) rfl rfl rfl (fun _ => ⟨rfl, fun hc => by first | rfl | (rw [hc]; rfl) | simp_all⟩))) ?_
                refine qm_q (i := 12) (l := [.o 11]) rfl rfl rfl rfl (by kernel_rfl) rfl (fun He => PV.rq (pv_mv (.n rfl) rfl rfl (fun _ => rfl))) ?_
                refine qm_q (i := 13) (l := [.k 7, .o 12]) rfl rfl rfl rfl (by kernel_rfl) rfl (fun He => PV.rq (pv_mv (.s rfl rfl rfl) rfl rfl (by first | exact fun _ => rfl | exact id | exact fun h => (Bool.and_eq_true_iff.1 h).1 | simp_all))) ?_
                refine qm_q (i := 14) (l := [.k 12, .o 12]) rfl rfl rfl rfl (by kernel_rfl) rfl (fun He => PV.rq (pv_mv (.s rfl rfl rfl) rfl rfl (by first | exact fun _ => rfl | exact id | exact fun h => (Bool.and_eq_true_iff.1 h).1 | simp_all))) ?_
                refine qm_q (i := 15) (l := [.o 13, .o 14, .o 12]) rfl rfl rfl rfl (by kernel_rfl) rfl (fun He => PV.rq (pv_idx Try.underlying53 (.ofC tc_3) hs (fun hg => ⟨rfl, (mapget hx)⟩) (.s rfl rfl rfl) rfl rfl rfl (by refine fun h => ⟨?_, ?_⟩ <;> first | rfl | exact h | exact (Bool.and_eq_true_iff.1 h).1 | simp_all))) ?_
                refine qm_q (i := 16) (l := [.o 15, .o 12]) rfl rfl rfl rfl (by kernel_rfl) rfl (fun He => RV.rq (rv_ldat (j := 0) tc_3 (Rd.ent hs (by repeat (first | exact Ent.rfl | exact Ent.one Ent.h | exact Ent.one (SelS.ent) | exact Ent.nil | exact Ent.left | refine Ent.dropR ?_ | refine Ent.tr Ent.skip ?_))) (fun hg => (mapget hx)) (.s rfl rfl rfl) rfl rfl (by first | exact fun _ => rfl | exact id | exact fun h => (Bool.and_eq_true_iff.1 h).1 | simp_all) rfl (fun _ => rfl))) ?_
                refine qm_q (i := 17) (l := [.k 8, .o 16, .o 12]) rfl rfl rfl rfl (by kernel_rfl) rfl (fun He => PV.rq (pv_aidx (i := x.toNat) Try.underlying70 (.ofC tc_4) (fun hg => ⟨by omega, by omega⟩) (.s rfl rfl rfl) rfl rfl rfl (by refine fun h => ⟨?_, ?_⟩ <;> first | rfl | exact h | exact (Bool.and_eq_true_iff.1 h).1 | simp_all))) ?_
                refine qm_q (i := 18) (l := [.o 17, .o 12]) rfl rfl rfl rfl (by kernel_rfl) rfl (fun He => RV.rq (q_ldci (i := x.toNat) tc_4 (.s rfl rfl rfl) rfl rfl (by first | exact fun _ => rfl | exact id | exact fun h => (Bool.and_eq_true_iff.1 h).1 | simp_all) (by omega) (bget (by have := hI.len; omega)))) ?_
                refine qm_q (i := 19) (l := [.o 18, .o 12]) rfl rfl rfl rfl (by kernel_rfl) rfl (fun He => PV.rq (pv_not (.s rfl rfl rfl) rfl rfl (by first | exact fun _ => rfl | exact id | exact fun h => (Bool.and_eq_true_iff.1 h).1 | simp_all))) ?_
                refine qm_q (i := 20) (l := [.o 12, .o 19]) rfl rfl rfl rfl (by kernel_rfl) rfl (fun He => PV.rq (pv_or (.n rfl) rfl rfl rfl (fun _ => ⟨rfl, fun hc => by first | rfl | (rw [hc]; rfl) | simp_all⟩))) ?_
                refine qm_q (i := 21) (l := [.o 20]) rfl rfl rfl rfl (by kernel_rfl) rfl (fun He => PV.rq (pv_mv (.n rfl) rfl rfl (fun _ => rfl))) ?_
                refine qm_q (i := 22) (l := [.k 12, .o 21]) rfl rfl rfl rfl (by kernel_rfl) rfl (fun He => PV.rq (pv_mv (.s rfl rfl rfl) rfl rfl (by first | exact fun _ => rfl | exact id | exact fun h => (Bool.and_eq_true_iff.1 h).1 | simp_all))) ?_
                refine qm_q (i := 23) (l := [.o 22, .o 21]) rfl rfl rfl rfl (by kernel_rfl) rfl (fun He => PV.rq (pv_gtr (.s rfl rfl rfl) rfl rfl rfl (by refine fun h => ⟨?_, ?_⟩ <;> first | rfl | exact h | exact (Bool.and_eq_true_iff.1 h).1 | simp_all))) ?_
                refine qm_q (i := 24) (l := [.o 23, .o 21]) rfl rfl rfl rfl (by kernel_rfl) rfl (fun He => PV.rq (pv_mv (.s rfl rfl rfl) rfl rfl (by first | exact fun _ => rfl | exact id | exact fun h => (Bool.and_eq_true_iff.1 h).1 | simp_all))) ?_
                refine qm_q (i := 25) (l := [.k 7, .o 24]) rfl rfl rfl rfl (by kernel_rfl) rfl (fun He => PV.rq (pv_mv (.s rfl rfl rfl) rfl rfl (by first | exact fun _ => rfl | exact id | exact fun h => (Bool.and_eq_true_iff.1 h).1 | simp_all))) ?_
                refine qm_q (i := 26) (l := [.k 12, .o 24]) rfl rfl rfl rfl (by kernel_rfl) rfl (fun He => PV.rq (pv_mv (.s rfl rfl rfl) rfl rfl (by first | exact fun _ => rfl | exact id | exact fun h => (Bool.and_eq_true_iff.1 h).1 | simp_all))) ?_
                refine qm_q (i := 27) (l := [.o 26, .o 24]) rfl rfl rfl rfl (by kernel_rfl) rfl (fun He => PV.rq (pv_sub (by intro hg; simp at hg; first | omega | (have := hapt.2.2; omega)) (.s rfl rfl rfl) rfl rfl rfl (by refine fun h => ⟨?_, ?_⟩ <;> first | rfl | exact h | exact (Bool.and_eq_true_iff.1 h).1 | simp_all))) ?_
                refine qm_q (i := 28) (l := [.o 25, .o 27, .o 24]) rfl rfl rfl rfl (by kernel_rfl) rfl (fun He => PV.rq (pv_idx Try.underlying53 (.ofC tc_3) hs (fun hg => ⟨(show ((i : Int) - 1) = ((i - 1 : Nat) : Int) by first | omega | (simp at hg; omega)), (mapget hy)⟩) (.s rfl rfl rfl) rfl rfl rfl (by refine fun h => ⟨?_, ?_⟩ <;> first | rfl | exact h | exact (Bool.and_eq_true_iff.1 h).1 | simp_all))) ?_
                refine qm_q (i := 29) (l := [.o 28, .o 24]) rfl rfl rfl rfl (by kernel_rfl) rfl (fun He => RV.rq (rv_ldat (j := 0) tc_3 (Rd.ent hs (by repeat (first | exact Ent.rfl | exact Ent.one Ent.h | exact Ent.one (SelS.ent) | exact Ent.nil | exact Ent.left | refine Ent.dropR ?_ | refine Ent.tr Ent.skip ?_))) (fun hg => (mapget hy)) (.s rfl rfl rfl) rfl rfl (by first | exact fun _ => rfl | exact id | exact fun h => (Bool.and_eq_true_iff.1 h).1 | simp_all) rfl (fun _ => rfl))) ?_
                refine qm_q (i := 30) (l := [.k 7, .o 24]) rfl rfl rfl rfl (by kernel_rfl) rfl (fun He => PV.rq (pv_mv (.s rfl rfl rfl) rfl rfl (by first | exact fun _ => rfl | exact id | exact fun h => (Bool.and_eq_true_iff.1 h).1 | simp_all))) ?_
                refine qm_q (i := 31) (l := [.k 12, .o 24]) rfl rfl rfl rfl (by kernel_rfl) rfl (fun He => PV.rq (pv_mv (.s rfl rfl rfl) rfl rfl (by first | exact fun _ => rfl | exact id | exact fun h => (Bool.and_eq_true_iff.1 h).1 | simp_all))) ?_
                refine qm_q (i := 32) (l := [.o 30, .o 31, .o 24]) rfl rfl rfl rfl (by kernel_rfl) rfl (fun He => PV.rq (pv_idx Try.underlying53 (.ofC tc_3) hs (fun hg => ⟨rfl, (mapget hx)⟩) (.s rfl rfl rfl) rfl rfl rfl (by refine fun h => ⟨?_, ?_⟩ <;> first | rfl | exact h | exact (Bool.and_eq_true_iff.1 h).1 | simp_all))) ?_
                refine qm_q (i := 33) (l := [.o 32, .o 24]) rfl rfl rfl rfl (by kernel_rfl) rfl (fun He => RV.rq (rv_ldat (j := 0) tc_3 (Rd.ent hs (by repeat (first | exact Ent.rfl | exact Ent.one Ent.h | exact Ent.one (SelS.ent) | exact Ent.nil | exact Ent.left | refine Ent.dropR ?_ | refine Ent.tr Ent.skip ?_))) (fun hg => (mapget hx)) (.s rfl rfl rfl) rfl rfl (by first | exact fun _ => rfl | exact id | exact fun h => (Bool.and_eq_true_iff.1 h).1 | simp_all) rfl (fun _ => rfl))) ?_
                refine qm_q (i := 34) (l := [.o 29, .o 33, .o 24]) rfl rfl rfl rfl (by kernel_rfl) rfl (fun He => PV.rq (pv_geq (.s rfl rfl rfl) rfl rfl rfl (by refine fun h => ⟨?_, ?_⟩ <;> first | rfl | exact h | exact (Bool.and_eq_true_iff.1 h).1 | simp_all))) ?_
                refine qm_q (i := 35) (l := [.o 24, .o 34, .o 21]) rfl rfl rfl rfl (by kernel_rfl) rfl (fun He => PV.rq (pv_and (.s rfl rfl rfl) rfl rfl rfl (by intro hg; refine ⟨?_, fun hc => ?_⟩ <;> first | rfl | (rw [hc]; rfl) | simp_all))) ?_
                refine qm_q (i := 36) (l := [.o 21, .o 35]) rfl rfl rfl rfl (by kernel_rfl) rfl (fun He => PV.rq (pv_or (.n rfl) rfl rfl rfl (fun _ => ⟨rfl, fun hc => by first | rfl | (rw [hc]; rfl) | simp_all⟩))) ?_
                refine qm_n (by kernel_rfl) (by kernel_rfl) (by kernel_rfl) (by kernel_rfl) (.c 4 rfl (.c 7 rfl (.c 8 rfl (.c 12 rfl (.c 128 rfl .n))))) ?_
                refine r_cond _ rfl (fun h10 => ?_) (fun h10 => ?_)
                · exfalso; simp only [hdead.1, Bool.not_true, Bool.or_false, Bool.or_eq_true, Bool.and_eq_true, decide_eq_true_eq] at h10; have ha := hdead.2; omega
                · skip
                  refine r_skip ?_
                  refine r_end ?_
                  refine r_region ?_
                  refine p_mv rfl rfl ?_
                  refine p_add rfl rfl (by first | omega | (have := hapt.2.2; omega)) rfl ?_
                  refine p_as rfl rfl ?_
                  refine o_keep (.c 4 rfl (.c 7 rfl (.c 8 rfl (.c 12 rfl .n)))) ?_
                  refine r_back_1 (i + 1) ?_ ?_ (Keep.app (.c 12 rfl .n) (.c 4 rfl (.c 7 rfl (.c 8 rfl .n)))) ?_
                  · omega
                  · omega
                  · first | exact Ent.rfl | (repeat (first | exact Ent.rfl | refine Ent.c (SelB.ent) ?_ | refine Ent.c (SelS.ent) ?_ | refine Ent.cN ?_ | refine Ent.c (SelX.ent) ?_ | refine Ent.dropR ?_))
              · skip
                refine r_exit rfl ?_
                refine r_seq ?_
                refine r_region ?_
                refine p_as rfl rfl ?_
                refine o_keep (.c 4 rfl .n) ?_
                refine r_retv hF rfl (.c (.t rfl) .n) ?_ ?_
                · first | exact Ent.rfl | (repeat (first | exact Ent.rfl | refine Ent.c (SelB.ent) ?_ | refine Ent.c (SelS.ent) ?_ | refine Ent.cN ?_ | refine Ent.c (SelX.ent) ?_ | refine Ent.dropR ?_))
                · rfl

theorem law_PlanJoins (M : Amb) (H : List HP) (v : Value) (l : List Want) (hl : Rd M [] v 2 (l.map rW)) (ws : List Int) (h6 : ws.length = 6) (n : Int) : FnV Try.prog M H 13 [v, .agg (ws.map vI).toArray, .int .i64 n] (.bool true) := by
  refine fn_intro Try.func13 rfl Try.ntmps13 rfl fun F hF => ?_
  have hA6 := applyL_len (l := l) h6
  refine r_seq ?_
  refine r_region ?_
  refine p_box rfl rfl rfl fun b4 => ?_
  refine p_as rfl rfl ?_
  refine o_keep (.c 0 rfl (.c 2 rfl (.c 4 rfl (.c 6 rfl .n)))) ?_
  refine r_seq ?_
  refine r_seq ?_
  refine r_region ?_
  refine p_callv cf_36 (.n) rfl (law_planBegun _ _) ?_
  refine p_not rfl rfl ?_
  refine o_keep (.c 0 rfl (.c 2 rfl (.c 4 rfl (.c 6 rfl (.c 15 rfl .n))))) ?_
  refine r_cond _ rfl (fun h1 => ?_) (fun h1 => ?_)
  · simp at h1
  · skip
    refine r_skip ?_
    refine r_seq ?_
    refine r_seq ?_
    refine r_region ?_
    refine p_mv rfl rfl ?_
    refine l_op (x_p (pv_lens hl.len ⟨_, Try.underlying57⟩ (.n rfl) rfl rfl rfl rfl (fun _ => rfl)) rfl rfl ?_)
    refine p_lss rfl rfl rfl ?_
    refine p_mv rfl rfl ?_
    refine l_op (x_p (pv_mv (.s rfl rfl rfl) rfl rfl (by first | exact fun _ => rfl | exact id | exact fun h => (Bool.and_eq_true_iff.1 h).1 | simp_all)) rfl rfl ?_)
    refine l_op (x_p (pv_lens hl.len ⟨_, Try.underlying57⟩ (.s rfl rfl rfl) rfl rfl rfl rfl (by first | exact fun _ => rfl | exact id | exact fun h => (Bool.and_eq_true_iff.1 h).1 | simp_all)) rfl rfl ?_)
    refine l_op (x_p (pv_gtr (.s rfl rfl rfl) rfl rfl rfl (by refine fun h => ⟨?_, ?_⟩ <;> first | rfl | exact h | exact (Bool.and_eq_true_iff.1 h).1 | simp_all)) rfl rfl ?_)
    refine l_op (x_p (pv_or (.n rfl) rfl rfl rfl (fun _ => ⟨rfl, fun hc => by first | rfl | (rw [hc]; rfl) | simp_all⟩)) rfl rfl ?_)
    refine p_mv rfl rfl ?_
    refine l_op (x_p (pv_mv (.s rfl rfl rfl) rfl rfl (by first | exact fun _ => rfl | exact id | exact fun h => (Bool.and_eq_true_iff.1 h).1 | simp_all)) rfl rfl ?_)
    refine l_op (x_q (rq_call cf_43 (.s rfl rfl rfl) rfl (.c rfl (by first | exact fun _ => rfl | exact id | exact fun h => (Bool.and_eq_true_iff.1 h).1 | simp_all) .n) (fun hg => plan_Check _ _ _ l hl.all (by simp at hg; omega))) rfl rfl ?_)
    refine l_op (x_p (pv_field Try.underlying62 rfl tc_3 (.s rfl rfl rfl) rfl rfl rfl (by first | exact fun _ => rfl | exact id | exact fun h => (Bool.and_eq_true_iff.1 h).1 | simp_all)) rfl rfl ?_)
    refine l_op (x_p (pv_neq (.s rfl rfl rfl) rfl rfl rfl (by refine fun h => ⟨?_, ?_⟩ <;> first | rfl | exact h | exact (Bool.and_eq_true_iff.1 h).1 | simp_all)) rfl rfl ?_)
    refine l_op (x_p (pv_or (.n rfl) rfl rfl rfl (fun _ => ⟨rfl, fun hc => by first | rfl | (rw [hc]; rfl) | simp_all⟩)) rfl rfl ?_)
    refine o_keep (.c 0 rfl (.c 2 rfl (.c 4 rfl (.c 6 rfl (.c 29 rfl .n))))) ?_
    refine r_cond _ rfl (fun h2 => ?_) (fun h2 => ?_)
    · skip
      refine r_seq ?_
      refine r_region ?_
      refine p_as rfl rfl ?_
      refine o_keep (.c 0 rfl (.c 2 rfl (.c 4 rfl (.c 6 rfl .n)))) ?_
      refine r_retv hF rfl (.c (.t rfl) .n) ?_ ?_
      · first | exact Ent.rfl | (repeat (first | exact Ent.rfl | refine Ent.c (SelB.ent) ?_ | refine Ent.c (SelS.ent) ?_ | refine Ent.cN ?_ | refine Ent.c (SelX.ent) ?_ | refine Ent.dropR ?_))
      · rfl
    · skip
      have hL : 2 ≤ l.length ∧ l.length ≤ 50 ∧ (checkL l).code = 0 := by simp at h2; omega
      obtain ⟨hL2, hL50, hck⟩ := hL
      have hLm : ((l.length : Int) - 1) = ((l.length - 1 : Nat) : Int) := by omega
      have hrl := rnd_lt (n := n) (L := l.length - 1) (by omega)
      refine r_skip ?_
      refine r_seq ?_
      refine r_region ?_
      refine p_mv rfl rfl ?_
      refine l_op (x_p (pv_conv Try.underlying3 Try.underlying42 (.n rfl) rfl rfl (fun _ => rfl)) rfl rfl ?_)
      refine p_mv rfl rfl ?_
      refine l_op (x_p (pv_lens hl.len ⟨_, Try.underlying57⟩ (.n rfl) rfl rfl rfl rfl (fun _ => rfl)) rfl rfl ?_)
      refine p_sub rfl rfl (by first | omega | (rw [hLm]; exact u64_ne (by omega) (by omega))) rfl ?_
      refine l_op (x_p (pv_conv Try.underlying3 Try.underlying42 (.n rfl) rfl rfl (fun _ => rfl)) rfl rfl ?_)
      refine l_op (x_p (pv_rem (fun _ => by first | omega | (rw [hLm]; exact u64_ne (by omega) (by omega))) (.n rfl) rfl rfl rfl (fun _ => ⟨rfl, rfl⟩)) rfl rfl ?_)
      refine l_op (x_p (pv_conv Try.underlying42 Try.underlying3 (.n rfl) rfl rfl (fun _ => rfl)) rfl rfl ?_)
      rw [hLm, rnd_eq (by omega) (by omega)]
      refine p_add rfl rfl (by first | omega | (rw [hLm]; exact u64_ne (by omega) (by omega))) rfl ?_
      refine p_as rfl rfl ?_
      refine o_keep (.c 0 rfl (.c 4 rfl (.c 6 rfl (.c 7 rfl .n)))) ?_
      obtain ⟨k, hk, hk1, hk2⟩ : ∃ k : Nat, (1 + (rnd n (l.length - 1) : Int)) = (k : Int) ∧ 0 < k ∧ k < l.length := ⟨1 + rnd n (l.length - 1), by omega, by omega, by omega⟩
      rw [hk]
      have hT6 := applyL_len (l := l.take k) h6
      have hD6 := applyL_len (l := l.drop k) hT6
      have hjn := apply_join (ws := ws) hck hk1 hk2
      have hat := applyL_at (applyL ws (l.take k)).1 (l.drop k)
      rw [List.length_drop] at hat
      refine r_seq ?_
      refine r_region ?_
      refine p_lda ta_59 rfl (by exact (Tk.all (by first | rfl | assumption | (simp only [List.drop_zero, List.length_map]; assumption) | (simp [*]; done)))) rfl ?_
      refine p_mv rfl rfl ?_
      refine p_callv cf_39 (.c rfl (.c rfl .n)) rfl (plan_Apply _ _ _ l ws hl.all (by omega) h6) ?_
      refine p_mv rfl rfl ?_
      refine p_ext rfl rfl rfl ?_
      refine p_ext rfl rfl rfl ?_
      refine p_alloc zr_59 rfl fun b8 => ?_
      refine p_alloc zr_62 rfl fun b9 => ?_
      refine p_store (.ofA ta_59) rfl rfl rfl (by first | rfl | exact (by first | rfl | assumption | (simp only [List.drop_zero, List.length_map]; assumption) | (simp [*]; done))) (by first | rfl | exact (by simp [vI, rF, Value.oneCell'])) (Ins.whole (by first | rfl | (simp only [List.length_map, List.length_cons, List.length_nil]; omega) | (simp [*]; done) | (simp [*]; rfl))) ?_
      refine p_store (.ofA ta_62) rfl rfl rfl (by first | rfl | exact rfl) (by first | rfl | exact (by simp [vI, rF, Value.oneCell'])) (Ins.whole (by first | rfl | (simp only [List.length_map, List.length_cons, List.length_nil]; omega) | (simp [*]; done) | (simp [*]; rfl))) ?_
      refine o_keep (.c 0 rfl (.c 4 rfl (.c 6 rfl (.c 7 rfl (.c 8 rfl (.c 9 rfl .n)))))) ?_
      refine r_seq ?_
      refine r_plan _ [] mo (.c 0 rfl (.c 4 rfl (.c 6 rfl (.c 7 rfl (.c 8 rfl (.c 9 rfl .n)))))) Ent.rfl ?_
      refine qm_q (i := 0) (l := [.k 4]) rfl rfl rfl rfl (by kernel_rfl) rfl (fun He => RV.rq (q_lda ta_59 (.n rfl) rfl rfl (fun _ => rfl) (by exact (Tk.all (by first | rfl | assumption | (simp only [List.drop_zero, List.length_map]; assumption) | (simp [*]; done)))))) ?_
      refine qm_q (i := 1) (l := [.k 0]) rfl rfl rfl rfl (by kernel_rfl) rfl (fun He => PV.rq (pv_mv (.n rfl) rfl rfl (fun _ => rfl))) ?_
      refine qm_q (i := 2) (l := [.k 7]) rfl rfl rfl rfl (by kernel_rfl) rfl (fun He => PV.rq (pv_mv (.n rfl) rfl rfl (fun _ => rfl))) ?_
      refine qm_q (i := 3) (l := [.o 1, .o 2]) rfl rfl rfl rfl (by kernel_rfl) rfl (fun He => PV.rq (pv_slc (l := 0) (h := k) Try.underlying57 (.ofA ta_29) hl (Nat.zero_le _) (by rw [List.length_map]; omega) rfl rfl rfl (.inl ⟨rfl, rfl, rfl⟩) (.inr ⟨_, _, rfl, rfl, rfl⟩))) ?_
      refine qm_q (i := 4) (l := [.o 0, .o 3]) rfl rfl rfl rfl (by kernel_rfl) rfl (fun He => rq_call cf_39 (.n rfl) rfl (.c rfl (fun _ => rfl) (.c rfl (fun _ => rfl) .n)) (fun hg => plan_Apply _ _ _ (l.take k) ws (Rd.all (hl.resl (Nat.zero_le _) (show k ≤ (l.map rW).length by rw [List.length_map]; omega)) |>.to (by simp)) (by simp; omega) h6)) ?_
      refine qm_q (i := 5) (l := [.o 4]) rfl rfl rfl rfl (by kernel_rfl) rfl (fun He => PV.rq (pv_mv (.n rfl) rfl rfl (fun _ => rfl))) ?_
      refine qm_q (i := 6) (l := [.o 5]) rfl rfl rfl rfl (by kernel_rfl) rfl (fun He => PV.rq (pv_ext (.n rfl) rfl rfl rfl (fun _ => rfl))) ?_
      refine qm_q (i := 7) (l := [.o 5]) rfl rfl rfl rfl (by kernel_rfl) rfl (fun He => PV.rq (pv_ext (.n rfl) rfl rfl rfl (fun _ => rfl))) ?_
      refine qm_alloc2 (i := 8) (j := 9) zr_59 zr_62 (by kernel_rfl) (by kernel_rfl) rfl rfl rfl rfl rfl rfl rfl rfl rfl (by kernel_rfl) (fun _ => by kernel_rfl) (fun _ => by kernel_rfl) rfl rfl rfl rfl fun b10 b11 => ?_
      refine qm_store (.ofA ta_59) (i := 10) [.o 8, .o 6] (by kernel_rfl) (by kernel_rfl) rfl rfl rfl (by kernel_rfl) (by kernel_rfl) ⟨_, .n rfl, rfl⟩ rfl rfl rfl rfl (by first | rfl | exact (by first | rfl | assumption | (simp only [List.drop_zero, List.length_map]; assumption) | (simp [*]; done))) (by first | rfl | exact (by simp [vI, rF, Value.oneCell'])) (Ins.whole (by first | rfl | (simp only [List.length_map, List.length_cons, List.length_nil]; omega) | (simp [*]; done) | (simp [*]; rfl))) ?_
      refine qb_store (.ofA ta_62) (i := 11) [.o 9, .o 7] (by kernel_rfl) (by kernel_rfl) rfl rfl rfl (by kernel_rfl) (by kernel_rfl) (by kernel_rfl) ⟨_, .n rfl, rfl⟩ rfl rfl rfl rfl (by first | rfl | exact rfl) (by first | rfl | exact (by simp [vI, rF, Value.oneCell'])) (Ins.whole (by first | rfl | (simp only [List.length_map, List.length_cons, List.length_nil]; omega) | (simp [*]; done) | (simp [*]; rfl))) ?_
      refine qm_n (by kernel_rfl) (by kernel_rfl) (by kernel_rfl) (by kernel_rfl) (.c 0 rfl (.c 6 rfl (.c 7 rfl (.c 8 rfl (.c 9 rfl (.c 10 rfl (.c 11 rfl .n))))))) ?_
      refine r_seq ?_
      refine r_seq ?_
      refine r_region ?_
      refine p_fa fa_62_0 rfl rfl ?_
      refine p_ldc tc_3 rfl (by rfl) rfl ?_
      refine p_neq rfl rfl rfl ?_
      refine o_keep (.c 0 rfl (.c 6 rfl (.c 7 rfl (.c 8 rfl (.c 9 rfl (.c 10 rfl (.c 11 rfl (.c 55 rfl .n)))))))) ?_
      refine r_cond _ rfl (fun h3 => ?_) (fun h3 => ?_)
      · skip
        have hg0 := h3
        refine r_seq ?_
        refine r_region ?_
        refine p_lda ta_62 rfl (by exact (Tk.all rfl)) rfl ?_
        refine p_lda ta_62 rfl (by exact (Tk.all rfl)) rfl ?_
        refine l_op (x_p (pv_aeq (eq_Fault) (.n rfl) rfl rfl rfl (fun _ => ⟨rfl, rfl⟩)) rfl rfl ?_)
        refine p_as rfl rfl ?_
        refine o_keep (.c 0 rfl (.c 6 rfl (.c 7 rfl (.c 8 rfl (.c 9 rfl (.c 10 rfl .n)))))) ?_
        refine r_retv hF rfl (.c (.t rfl) .n) ?_ ?_
        · first | exact Ent.rfl | (repeat (first | exact Ent.rfl | refine Ent.c (SelB.ent) ?_ | refine Ent.c (SelS.ent) ?_ | refine Ent.cN ?_ | refine Ent.c (SelX.ent) ?_ | refine Ent.dropR ?_))
        · exact bool_eq (by simp at hg0; simp [hjn.1 hg0])
      · skip
        have hg1 : (applyL ws (l.take k)).2.code = 0 := by simpa using h3
        refine r_skip ?_
        refine r_seq ?_
        refine r_plan _ [] mo (.c 0 rfl (.c 6 rfl (.c 7 rfl (.c 8 rfl (.c 9 rfl (.c 10 rfl .n)))))) Ent.rfl ?_
        refine qm_q (i := 0) (l := [.k 10]) rfl rfl rfl rfl (by kernel_rfl) rfl (fun He => RV.rq (q_lda ta_59 (.n rfl) rfl rfl (fun _ => rfl) (by exact (Tk.all (by first | rfl | assumption | (simp only [List.drop_zero, List.length_map]; assumption) | (simp [*]; done)))))) ?_
        refine qm_q (i := 1) (l := [.k 0]) rfl rfl rfl rfl (by kernel_rfl) rfl (fun He => PV.rq (pv_mv (.n rfl) rfl rfl (fun _ => rfl))) ?_
        refine qm_q (i := 2) (l := [.k 7]) rfl rfl rfl rfl (by kernel_rfl) rfl (fun He => PV.rq (pv_mv (.n rfl) rfl rfl (fun _ => rfl))) ?_
        refine qm_q (i := 3) (l := [.o 1, .o 2]) rfl rfl rfl rfl (by kernel_rfl) rfl (fun He => PV.rq (pv_slc (l := k) (h := (l.map rW).length) Try.underlying57 (.ofA ta_29) hl (by rw [List.length_map]; omega) (Nat.le_refl _) rfl rfl rfl (.inr ⟨_, _, rfl, rfl, rfl⟩) (.inl ⟨rfl, rfl, rfl⟩))) ?_
        refine qm_q (i := 4) (l := [.o 0, .o 3]) rfl rfl rfl rfl (by kernel_rfl) rfl (fun He => rq_call cf_39 (.n rfl) rfl (.c rfl (fun _ => rfl) (.c rfl (fun _ => rfl) .n)) (fun hg => plan_Apply _ _ _ (l.drop k) (applyL ws (l.take k)).1 (Rd.all (hl.resl (show k ≤ (l.map rW).length by rw [List.length_map]; omega) (Nat.le_refl _)) |>.to (by rw [List.take_length, List.map_drop])) (by simp; omega) hT6)) ?_
        refine qm_q (i := 5) (l := [.o 4]) rfl rfl rfl rfl (by kernel_rfl) rfl (fun He => PV.rq (pv_mv (.n rfl) rfl rfl (fun _ => rfl))) ?_
        refine qm_q (i := 6) (l := [.o 5]) rfl rfl rfl rfl (by kernel_rfl) rfl (fun He => PV.rq (pv_ext (.n rfl) rfl rfl rfl (fun _ => rfl))) ?_
        refine qm_q (i := 7) (l := [.o 5]) rfl rfl rfl rfl (by kernel_rfl) rfl (fun He => PV.rq (pv_ext (.n rfl) rfl rfl rfl (fun _ => rfl))) ?_
        refine qm_alloc2 (i := 8) (j := 9) zr_59 zr_62 (by kernel_rfl) (by kernel_rfl) rfl rfl rfl rfl rfl rfl rfl rfl rfl (by kernel_rfl) (fun _ => by kernel_rfl) (fun _ => by kernel_rfl) rfl rfl rfl rfl fun b12 b13 => ?_
        refine qm_store (.ofA ta_59) (i := 10) [.o 8, .o 6] (by kernel_rfl) (by kernel_rfl) rfl rfl rfl (by kernel_rfl) (by kernel_rfl) ⟨_, .n rfl, rfl⟩ rfl rfl rfl rfl (by first | rfl | exact (by first | rfl | assumption | (simp only [List.drop_zero, List.length_map]; assumption) | (simp [*]; done))) (by first | rfl | exact (by simp [vI, rF, Value.oneCell'])) (Ins.whole (by first | rfl | (simp only [List.length_map, List.length_cons, List.length_nil]; omega) | (simp [*]; done) | (simp [*]; rfl))) ?_
        refine qb_store (.ofA ta_62) (i := 11) [.o 9, .o 7] (by kernel_rfl) (by kernel_rfl) rfl rfl rfl (by kernel_rfl) (by kernel_rfl) (by kernel_rfl) ⟨_, .n rfl, rfl⟩ rfl rfl rfl rfl (by first | rfl | exact rfl) (by first | rfl | exact (by simp [vI, rF, Value.oneCell'])) (Ins.whole (by first | rfl | (simp only [List.length_map, List.length_cons, List.length_nil]; omega) | (simp [*]; done) | (simp [*]; rfl))) ?_
        refine qm_n (by kernel_rfl) (by kernel_rfl) (by kernel_rfl) (by kernel_rfl) (.c 6 rfl (.c 7 rfl (.c 8 rfl (.c 9 rfl (.c 12 rfl (.c 13 rfl .n)))))) ?_
        refine r_seq ?_
        refine r_seq ?_
        refine r_region ?_
        refine p_fa fa_62_0 rfl rfl ?_
        refine p_ldc tc_3 rfl (by rfl) rfl ?_
        refine p_neq rfl rfl rfl ?_
        refine o_keep (.c 6 rfl (.c 7 rfl (.c 8 rfl (.c 9 rfl (.c 12 rfl (.c 13 rfl (.c 69 rfl .n))))))) ?_
        refine r_cond _ rfl (fun h4 => ?_) (fun h4 => ?_)
        · skip
          have hg2 : (applyL (applyL ws (l.take k)).1 (l.drop k)).2.code ≠ 0 := by simpa using h4
          refine r_seq ?_
          refine r_region ?_
          refine p_lda ta_62 rfl (by exact (Tk.all rfl)) rfl ?_
          refine p_fa fa_62_0 rfl rfl ?_
          refine p_ldc tc_3 rfl (by rfl) rfl ?_
          refine p_fa fa_62_1 rfl rfl ?_
          refine p_ldc tc_3 rfl (by rfl) rfl ?_
          refine p_mv rfl rfl ?_
          refine p_add rfl rfl (by first | omega | (rw [hLm]; exact u64_ne (by omega) (by omega))) rfl ?_
          refine p_build zr_62 pl_62 (.c rfl (fun _ => rfl) rfl rfl rfl (by repeat constructor) (.c rfl (fun _ => rfl) rfl rfl rfl (by repeat constructor) .n)) rfl ?_
          refine l_op (x_p (pv_aeq (eq_Fault (g := ⟨(applyL (applyL ws (l.take k)).1 (l.drop k)).2.code, (applyL (applyL ws (l.take k)).1 (l.drop k)).2.at' + k⟩)) (.n rfl) rfl rfl rfl (fun _ => ⟨rfl, rfl⟩)) rfl rfl ?_)
          refine p_as rfl rfl ?_
          refine o_keep (.c 6 rfl (.c 8 rfl (.c 9 rfl (.c 12 rfl .n)))) ?_
          refine r_retv hF rfl (.c (.t rfl) .n) ?_ ?_
          · first | exact Ent.rfl | (repeat (first | exact Ent.rfl | refine Ent.c (SelB.ent) ?_ | refine Ent.c (SelS.ent) ?_ | refine Ent.cN ?_ | refine Ent.c (SelX.ent) ?_ | refine Ent.dropR ?_))
          · exact bool_eq (by rw [(hjn.2 hg1).1 hg2]; simp)
        · skip
          have hg3 : (applyL (applyL ws (l.take k)).1 (l.drop k)).2.code = 0 := by simpa using h4
          refine r_skip ?_
          refine r_seq ?_
          refine r_region ?_
          refine p_fa fa_62_0 rfl rfl ?_
          refine p_ldc tc_3 rfl (by rfl) rfl ?_
          refine p_eql rfl rfl rfl ?_
          refine p_mv rfl rfl ?_
          refine l_op (x_r (q_lda ta_59 (.s rfl rfl rfl) rfl rfl (by first | exact fun _ => rfl | exact id | exact fun h => (Bool.and_eq_true_iff.1 h).1 | simp_all) (by exact (Tk.all (by first | rfl | assumption | (simp only [List.drop_zero, List.length_map]; assumption) | (simp [*]; done))))) rfl rfl ?_)
          refine l_op (x_r (q_lda ta_59 (.s rfl rfl rfl) rfl rfl (by first | exact fun _ => rfl | exact id | exact fun h => (Bool.and_eq_true_iff.1 h).1 | simp_all) (by exact (Tk.all (by first | rfl | assumption | (simp only [List.drop_zero, List.length_map]; assumption) | (simp [*]; done))))) rfl rfl ?_)
          refine l_op (x_p (pv_aeq (eq_World (by first | rfl | assumption | (simp [*]; done)) (by first | rfl | assumption | (simp [*]; done))) (.s rfl rfl rfl) rfl rfl rfl (by refine fun h => ⟨?_, ?_⟩ <;> first | rfl | exact h | exact (Bool.and_eq_true_iff.1 h).1 | simp_all)) rfl rfl ?_)
          refine l_op (x_p (pv_and (.n rfl) rfl rfl rfl (fun _ => ⟨rfl, fun hc => by first | rfl | (rw [hc]; rfl) | simp_all⟩)) rfl rfl ?_)
          refine p_as rfl rfl ?_
          refine o_keep (.c 6 rfl .n) ?_
          refine r_retv hF rfl (.c (.t rfl) .n) ?_ ?_
          · first | exact Ent.rfl | (repeat (first | exact Ent.rfl | refine Ent.c (SelB.ent) ?_ | refine Ent.c (SelS.ent) ?_ | refine Ent.cN ?_ | refine Ent.c (SelX.ent) ?_ | refine Ent.dropR ?_))
          · exact bool_eq (by obtain ⟨q1, q2⟩ := (hjn.2 hg1).2 hg3; simp [q1, q2])

end Go.Proofs.Ytmakdilmibjpbaa
