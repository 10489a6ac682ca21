/- The walks of KeepLaws2: written by a program of ours (gen.py) over the engine. -/
import Derived.Test.YtmakdilmibjpbabPlain
import Derived.Test.YtmakdilmibjpbabFacts
import Derived.Test.YtmakdilmibjpbabKeepLaws
namespace Go.Proofs.Ytmakdilmibjpbab
open Go Go.RowKit
set_option linter.unusedVariables false
set_option linter.unusedSimpArgs false
set_option maxRecDepth 20000

theorem KInv.kstep {k : KeepS} (hI : KInv k) (r : Rec) : ((doK k r).2 ≠ 0 ∧ (doK k r).1 = k) ∨ ((doK k r).2 = 0 ∧ r ∈ k.l ∧ (doK k r).1 = k) ∨ ((doK k r).2 = 0 ∧ r ∉ k.l ∧ (doK k r).1.l = k.l ++ [r]) := by
  by_cases h : (doC k.shop r).2 = 0
  · by_cases hm : r ∈ k.l
    · exact .inr (.inl ⟨h, hm, by simp only [doK, hI.again h hm, hm, not_true_eq_false, and_false, if_false]⟩)
    · exact .inr (.inr ⟨h, hm, by simp only [doK]; rw [if_pos ⟨h, hm⟩]⟩)
  · exact .inl ⟨h, by simp only [doK, doC_err h, h, false_and, if_false]⟩

theorem law_KeepRefuses (M : Amb) (H : List HP) (no : Int) (ws : List Int) (hws : ws.length = 6) (uv : Value) (ls : List Rec) (hu : Rd M [] uv 5 (ls.map rR)) : FnV Try.prog M H 12 [.int .i64 no, .agg (ws.map vI).toArray, uv] (.bool true) := by
  refine fn_intro Try.func12 rfl Try.ntmps12 rfl fun F hF => ?_
  refine r_seq ?_
  refine r_region ?_
  refine p_box rfl rfl rfl fun b4 => ?_
  refine p_as rfl rfl ?_
  refine o_keep (.c 0 rfl (.c 2 rfl (.c 4 rfl (.c 6 rfl .n)))) ?_
  refine r_seq ?_
  refine r_seq ?_
  refine r_region ?_
  refine p_callv cf_48 (.n) rfl (law_keepBegun _ _) ?_
  refine p_not rfl rfl ?_
  refine o_keep (.c 0 rfl (.c 2 rfl (.c 4 rfl (.c 6 rfl (.c 16 rfl .n))))) ?_
  refine r_cond _ rfl (fun h1 => ?_) (fun h1 => ?_)
  · simp at h1
  · skip
    refine r_skip ?_
    refine r_seq ?_
    refine r_seq ?_
    refine r_region ?_
    refine p_mv rfl rfl ?_
    refine l_op (x_p (pv_lens hu.len ⟨_, Try.underlying90⟩ (.n rfl) rfl rfl rfl rfl (fun _ => rfl)) rfl rfl ?_)
    refine p_gtr rfl rfl rfl ?_
    refine o_keep (.c 0 rfl (.c 2 rfl (.c 4 rfl (.c 6 rfl (.c 19 rfl .n))))) ?_
    refine r_cond _ rfl (fun h2 => ?_) (fun h2 => ?_)
    · skip
      refine r_seq ?_
      refine r_region ?_
      refine p_as rfl rfl ?_
      refine o_keep (.c 0 rfl (.c 2 rfl (.c 4 rfl (.c 6 rfl .n)))) ?_
      refine r_retv hF rfl (.c (.t rfl) .n) ?_ ?_
      · first | exact Ent.rfl | (repeat (first | exact Ent.rfl | refine Ent.c (SelB.ent) ?_ | refine Ent.c (SelS.ent) ?_ | refine Ent.cN ?_ | refine Ent.c (SelX.ent) ?_ | refine Ent.dropR ?_))
      · first | rfl | exact bool_eq (by simp)
    · skip
      have hL := of_decide_eq_false h2
      refine r_skip ?_
      refine r_seq ?_
      rcases hn : newS no ws with _ | s0
      · skip
        refine r_region ?_
        refine p_mv rfl rfl ?_
        refine p_lda ta_42 rfl (by exact (Tk.all (by first | rfl | assumption | (simp only [List.drop_zero, List.length_map]; assumption) | (simp [*]; done)))) rfl ?_
        refine p_callc cf_51 (.c rfl (.c rfl .n)) rfl (keep_New_none _ no ws hws hn) ?_
        refine p_as rfl rfl ?_
        refine o_keep (.c 2 rfl (.c 6 rfl (.c 7 rfl .n))) ?_
        refine r_seq ?_
        refine r_seq ?_
        refine r_region ?_
        refine p_mv rfl rfl ?_
        refine l_op (x_p (pv_peqn Try.underlying97 (.n rfl) rfl rfl rfl (fun _ => ⟨rfl, rfl⟩)) rfl rfl ?_)
        refine o_keep (.c 2 rfl (.c 6 rfl (.c 7 rfl (.c 24 rfl .n)))) ?_
        refine r_cond _ rfl (fun h3 => ?_) (fun h3 => ?_)
        · skip
          refine r_seq ?_
          refine r_region ?_
          refine p_as rfl rfl ?_
          refine o_keep (.c 2 rfl (.c 6 rfl (.c 7 rfl .n))) ?_
          refine r_retv hF rfl (.c (.t rfl) .n) ?_ ?_
          · first | exact Ent.rfl | (repeat (first | exact Ent.rfl | refine Ent.c (SelB.ent) ?_ | refine Ent.c (SelS.ent) ?_ | refine Ent.cN ?_ | refine Ent.c (SelX.ent) ?_ | refine Ent.dropR ?_))
          · first | rfl | exact bool_eq (by simp)
        · simp at h3
      · skip
        refine r_region ?_
        refine p_mv rfl rfl ?_
        refine p_lda ta_42 rfl (by exact (Tk.all (by first | rfl | assumption | (simp only [List.drop_zero, List.length_map]; assumption) | (simp [*]; done)))) rfl ?_
        refine p_calle cf_51 (.c rfl (.c rfl .n)) rfl (keep_New_some _ no ws hws hn) fun b7 => ?_
        refine o_cat ?_
        refine p_as rfl rfl ?_
        refine o_keep (.c 2 rfl (.c 6 rfl (.c 7 rfl .n))) ?_
        refine r_seq ?_
        refine r_seq ?_
        refine r_region ?_
        refine p_mv rfl rfl ?_
        refine l_op (x_p (pv_peqn Try.underlying97 (.n rfl) rfl rfl rfl (fun _ => ⟨rfl, rfl⟩)) rfl rfl ?_)
        refine o_keep (.c 2 rfl (.c 6 rfl (.c 7 rfl (.c 24 rfl .n)))) ?_
        refine r_cond _ rfl (fun h4 => ?_) (fun h4 => ?_)
        · simp at h4
        · skip
          refine r_skip ?_
          refine r_seq ?_
          refine r_seq ?_
          refine r_region ?_
          refine p_as rfl rfl ?_
          refine o_keep (.c 2 rfl (.c 6 rfl (.c 7 rfl (.c 8 rfl .n)))) ?_
          refine r_block ?_
          refine r_loop_2 (fun (i : Nat) (k : KeepS) => [(8, true, .int .i64 (i : Int))]) (.c 2 rfl (.c 6 rfl (.c 7 rfl .n))) (fun (i : Nat) (k : KeepS) => keepP b7 k :: blk b4 (ws.map vI) 42 :: H) (fun (i : Nat) (k : KeepS) => i ≤ ls.length ∧ KInv k) (fun (i : Nat) (k : KeepS) => ls.length - i) (0) (⟨no, ws, s0, []⟩) ?_ (.c 8 rfl .n) ?_ (fun i k hI => ?_)
          · exact ⟨Nat.zero_le _, (KInv.new (no := no) (ws := ws) (k := ⟨no, ws, s0, []⟩) (by unfold newK; rw [hn]; rfl)).1⟩
          · first | exact Ent.rfl | (repeat (first | exact Ent.rfl | refine Ent.c (SelB.ent) ?_ | refine Ent.c (SelS.ent) ?_ | refine Ent.cN ?_ | refine Ent.c (SelX.ent) ?_ | refine Ent.dropR ?_))
          · skip
            obtain ⟨hil, hK⟩ := hI
            refine r_seq ?_
            refine r_seq ?_
            refine r_region ?_
            refine p_mv rfl rfl ?_
            refine p_mv rfl rfl ?_
            refine l_op (x_p (pv_lens hu.len ⟨_, Try.underlying90⟩ (.n rfl) rfl rfl rfl rfl (fun _ => rfl)) rfl rfl ?_)
            refine p_lss rfl rfl rfl ?_
            refine o_keep (.c 2 rfl (.c 6 rfl (.c 7 rfl (.c 8 rfl (.c 28 rfl .n))))) ?_
            refine r_cond _ rfl (fun h5 => ?_) (fun h5 => ?_)
            · skip
              obtain ⟨r, hr⟩ := getlt (l := ls) (i := i) (by have := of_decide_eq_true h5; omega)
              have hil2 := (List.getElem?_eq_some_iff.1 hr).1
              have hh1 := hK.sh.holds_le
              have hh2 := hK.sh.over_le
              have hh3 := hK.l_le
              refine r_skip ?_
              refine r_seq ?_
              refine r_block ?_
              refine r_seq ?_
              refine r_sel (keepP b7 k) ?_
              refine r_ex2 fun sb lv => ?_
              refine r_cat ?_
              refine r_rd lv fun hrl => ?_
              refine r_plan _ [] mo (.c 2 rfl (.c 6 rfl (.c 7 rfl (.c 8 rfl .n)))) Ent.rfl ?_
              refine qm_q (i := 0) (l := [.k 7]) rfl rfl rfl rfl (by kernel_rfl) rfl (fun He => PV.rq (pv_mv (.n rfl) rfl rfl (fun _ => rfl))) ?_
              refine qm_q (i := 1) (l := [.o 0]) rfl rfl rfl rfl (by kernel_rfl) rfl (fun He => PV.rq (pv_nilp (.n rfl) rfl rfl (fun _ => rfl))) ?_
              refine qm_q (i := 2) (l := [.o 1]) rfl rfl rfl rfl (by kernel_rfl) rfl (fun He => PV.rq (pv_fa fa_105_0 (.n rfl) rfl rfl (fun _ => rfl))) ?_
              refine qm_q (i := 3) (l := [.o 2]) rfl rfl rfl rfl (by kernel_rfl) rfl (fun He => RV.rq (q_ldc tc_44 (.n rfl) rfl rfl (fun _ => rfl) (by rfl))) ?_
              refine qm_q (i := 4) (l := [.o 3]) rfl rfl rfl rfl (by kernel_rfl) rfl (fun He => rq_call cf_27 (.n rfl) rfl (.c rfl (fun _ => rfl) .n) (fun hg => (shop_Counts _ sb k.shop).q)) ?_
              refine qm_q (i := 5) (l := [.k 7]) rfl rfl rfl rfl (by kernel_rfl) rfl (fun He => PV.rq (pv_mv (.n rfl) rfl rfl (fun _ => rfl))) ?_
              refine qm_q (i := 6) (l := [.o 5]) rfl rfl rfl rfl (by kernel_rfl) rfl (fun He => PV.rq (pv_nilp (.n rfl) rfl rfl (fun _ => rfl))) ?_
              refine qm_q (i := 7) (l := [.o 6]) rfl rfl rfl rfl (by kernel_rfl) rfl (fun He => PV.rq (pv_fa fa_105_0 (.n rfl) rfl rfl (fun _ => rfl))) ?_
              refine qm_q (i := 8) (l := [.o 7]) rfl rfl rfl rfl (by kernel_rfl) rfl (fun He => RV.rq (q_ldc tc_44 (.n rfl) rfl rfl (fun _ => rfl) (by rfl))) ?_
              refine qm_q (i := 10) (l := [.k 7]) rfl rfl rfl rfl (by kernel_rfl) rfl (fun He => PV.rq (pv_mv (.n rfl) rfl rfl (fun _ => rfl))) ?_
              refine qm_ann (i1 := 9) (i2 := 11) (j := 12) (l1 := [.o 8]) (l2 := [.o 10]) zr_52 (by kernel_rfl) (by kernel_rfl) rfl rfl rfl rfl rfl rfl rfl rfl rfl rfl rfl rfl rfl rfl rfl (by kernel_rfl) (by kernel_rfl) (by kernel_rfl) (fun _ => by kernel_rfl) (fun _ => by kernel_rfl) (fun _ _ => by kernel_rfl) (fun _ _ => by kernel_rfl) (fun _ _ => by kernel_rfl) rfl rfl rfl rfl cf_30 cf_57 rfl rfl (.c rfl .n) (fun _ => (.c rfl .n)) (fun _ => (.c rfl .n)) (fun _ _ => (.c rfl .n)) (fun _ _ => (.c rfl .n)) (shop_HoldsN _ sb k.shop (by omega) (by omega)) (keep_Records_oN _ b7 k hK sb lv) fun hv1 rv1 b9 => ?_
              refine qm_rd hv1 fun hr1 => ?_
              refine qm_rd rv1 fun hq1 => ?_
              refine qb_store (.ofA ta_52) (i := 13) [.o 12, .o 4] (by kernel_rfl) (by kernel_rfl) rfl rfl rfl (by kernel_rfl) (by kernel_rfl) (by kernel_rfl) ⟨_, .n rfl, rfl⟩ rfl rfl rfl rfl (by first | rfl | exact rfl) (by first | rfl | exact (by first | rfl | simp [vI, Value.oneCell'])) (Ins.whole (by first | rfl | (simp only [List.length_map, List.length_cons, List.length_nil]; omega) | (simp [*]; done) | (simp [*]; rfl))) ?_
              refine qm_q (i := 14) (l := [.o 9]) rfl rfl rfl rfl (by kernel_rfl) rfl (fun He => PV.rq (pv_as (.n rfl) rfl rfl (fun _ => rfl))) ?_
              refine qm_q (i := 15) (l := [.o 11]) rfl rfl rfl rfl (by kernel_rfl) rfl (fun He => PV.rq (pv_as (.n rfl) rfl rfl (fun _ => rfl))) ?_
              refine qm_n (by kernel_rfl) (by kernel_rfl) (by kernel_rfl) (by kernel_rfl) (.c 2 rfl (.c 6 rfl (.c 7 rfl (.c 8 rfl (.c 9 rfl (.c 10 rfl (.c 11 rfl .n))))))) ?_
              refine r_seq ?_
              refine r_ent (H' := keepP b7 k :: sl rv1 103 5 (k.l.map rR) :: blk b9 (cntL k.shop.c0 ++ cntL k.shop.c1) 52 :: sl hv1 67 3 (k.shop.holds.map rH) :: blk b4 (ws.map vI) 42 :: H) (by refine Ent.c (keepP_close sb lv rfl rfl) ?_; first | exact Ent.rfl | (repeat (first | exact Ent.rfl | refine Ent.c (SelB.ent) ?_ | refine Ent.c (SelS.ent) ?_ | refine Ent.cN ?_ | refine Ent.c (SelX.ent) ?_ | refine Ent.dropR ?_))) ?_
              refine r_region ?_
              refine p_mv rfl rfl ?_
              refine p_mv rfl rfl ?_
              refine p_mv rfl rfl ?_
              refine p_idx Try.underlying90 (.ofA ta_103) hu rfl (mapget hr) rfl rfl rfl ?_
              refine p_ldats 0 ta_103 (Rd.ent hu (by repeat (first | exact Ent.rfl | exact Ent.one Ent.h | exact Ent.one (SelS.ent) | exact Ent.nil | exact Ent.left | refine Ent.dropR ?_ | refine Ent.tr Ent.skip ?_))) (mapget hr) rfl rfl (.s (.s (.s (.s (.s .z))))) rfl ?_
              refine p_callc cf_53 (.c rfl (.c rfl .n)) rfl (keep_Do _ b7 k hK r) ?_
              refine p_as rfl rfl ?_
              refine o_keep (.c 2 rfl (.c 6 rfl (.c 7 rfl (.c 8 rfl (.c 9 rfl (.c 10 rfl (.c 11 rfl (.c 12 rfl .n)))))))) ?_
              refine r_seq ?_
              have hst := hK.kstep r
              have hK2 := hK.step r
              have hk12 : (doK k r).1.no = k.no ∧ (doK k r).1.ws = k.ws := ⟨rfl, rfl⟩
              generalize (doK k r).1 = k2 at hst hK2 hk12 ⊢
              generalize (doK k r).2 = c at hst ⊢
              have hj1 := hK2.sh.holds_le
              have hj2 := hK2.sh.over_le
              have hj3 := hK2.l_le
              refine r_region ?_
              refine p_mv rfl rfl ?_
              refine p_calle cf_57 (.c rfl .n) rfl (keep_Records _ b7 k2 hK2) fun rv2 => ?_
              refine o_cat ?_
              refine o_rd rv2 fun hq2 => ?_
              refine p_as rfl rfl ?_
              refine o_keep (.c 2 rfl (.c 6 rfl (.c 7 rfl (.c 8 rfl (.c 9 rfl (.c 10 rfl (.c 11 rfl (.c 12 rfl (.c 13 rfl .n))))))))) ?_
              refine r_seq ?_
              refine r_seq ?_
              rcases hst with ⟨hc, hk⟩ | ⟨hc, hm, hk⟩ | ⟨hc, hm, hl2⟩
              · skip
                have hl0 : k2.l = k.l := by rw [hk]
                have htk : k2.l.take k.l.length = k.l := by rw [hl0]; simp
                refine r_sel (keepP b7 k2) ?_
                refine r_ex2 fun sb lv => ?_
                refine r_cat ?_
                refine r_rd lv fun hrl => ?_
                refine r_plan _ [] mo (.c 2 rfl (.c 6 rfl (.c 7 rfl (.c 8 rfl (.c 9 rfl (.c 10 rfl (.c 11 rfl (.c 12 rfl (.c 13 rfl .n))))))))) Ent.rfl ?_
                refine qm_q (i := 0) (l := [.k 12]) rfl rfl rfl rfl (by kernel_rfl) rfl (fun He => PV.rq (pv_mv (.n rfl) rfl rfl (fun _ => rfl))) ?_
                refine qm_q (i := 1) (l := [.o 0]) rfl rfl rfl rfl (by kernel_rfl) rfl (fun He => PV.rq (pv_to (pv_neq (.n rfl) rfl rfl rfl (fun _ => ⟨rfl, rfl⟩)) (show _ = Value.bool true by simp [hc]))) ?_
                refine qm_q (i := 2) (l := [.o 1]) rfl rfl rfl rfl (by kernel_rfl) rfl (fun He => PV.rq (pv_mv (.n rfl) rfl rfl (fun _ => rfl))) ?_
                refine qm_q (i := 3) (l := [.k 9, .o 2]) rfl rfl rfl rfl (by kernel_rfl) rfl (fun He => RV.rq (q_lda ta_52 (.s rfl rfl rfl) rfl rfl (by first | exact fun _ => rfl | exact id | exact fun h => (Bool.and_eq_true_iff.1 h).1 | simp_all) (by exact (Tk.all rfl)))) ?_
                refine qm_q (i := 4) (l := [.k 7, .o 2]) rfl rfl rfl rfl (by kernel_rfl) rfl (fun He => PV.rq (pv_mv (.s rfl rfl rfl) rfl rfl (by first | exact fun _ => rfl | exact id | exact fun h => (Bool.and_eq_true_iff.1 h).1 | simp_all))) ?_
                refine qm_q (i := 5) (l := [.o 4, .o 2]) rfl rfl rfl rfl (by kernel_rfl) rfl (fun He => PV.rq (pv_nilp (.s rfl rfl rfl) rfl rfl (by first | exact fun _ => rfl | exact id | exact fun h => (Bool.and_eq_true_iff.1 h).1 | simp_all))) ?_
                refine qm_q (i := 6) (l := [.o 5, .o 2]) rfl rfl rfl rfl (by kernel_rfl) rfl (fun He => PV.rq (pv_fa fa_105_0 (.s rfl rfl rfl) rfl rfl (by first | exact fun _ => rfl | exact id | exact fun h => (Bool.and_eq_true_iff.1 h).1 | simp_all))) ?_
                refine qm_q (i := 7) (l := [.o 6, .o 2]) rfl rfl rfl rfl (by kernel_rfl) rfl (fun He => RV.rq (q_ldc tc_44 (.s rfl rfl rfl) rfl rfl (by first | exact fun _ => rfl | exact id | exact fun h => (Bool.and_eq_true_iff.1 h).1 | simp_all) (by rfl))) ?_
                refine qm_q (i := 8) (l := [.o 7, .o 2]) rfl rfl rfl rfl (by kernel_rfl) rfl (fun He => rq_call cf_27 (.s rfl rfl rfl) rfl (.c rfl (by first | exact fun _ => rfl | exact id | exact fun h => (Bool.and_eq_true_iff.1 h).1 | simp_all) .n) (fun hg => (shop_Counts _ sb k2.shop).q)) ?_
                refine qm_q (i := 9) (l := [.o 3, .o 8, .o 2]) rfl rfl rfl rfl (by kernel_rfl) rfl (fun He => PV.rq (pv_to (pv_ane eq_Cnts (.s rfl rfl rfl) rfl rfl rfl (by refine fun h => ⟨?_, ?_⟩ <;> first | rfl | exact h | exact (Bool.and_eq_true_iff.1 h).1 | simp_all)) (show _ = Value.bool false by simp [hk]))) ?_
                refine qm_q (i := 10) (l := [.o 9, .o 2]) rfl rfl rfl rfl (by kernel_rfl) rfl (fun He => PV.rq (pv_mv (.s rfl rfl rfl) rfl rfl (by first | exact fun _ => rfl | exact id | exact fun h => (Bool.and_eq_true_iff.1 h).1 | simp_all))) ?_
                refine qm_q (i := 11) (l := [.k 10, .o 10]) rfl rfl rfl rfl (by kernel_rfl) rfl (fun He => PV.rq (pv_mv (.s rfl rfl rfl) rfl rfl (by first | exact fun _ => rfl | exact id | exact fun h => (Bool.and_eq_true_iff.1 h).1 | simp_all))) ?_
                refine qm_q (i := 12) (l := [.k 7, .o 10]) rfl rfl rfl rfl (by kernel_rfl) rfl (fun He => PV.rq (pv_mv (.s rfl rfl rfl) rfl rfl (by first | exact fun _ => rfl | exact id | exact fun h => (Bool.and_eq_true_iff.1 h).1 | simp_all))) ?_
                refine qm_q (i := 13) (l := [.o 12, .o 10]) rfl rfl rfl rfl (by kernel_rfl) rfl (fun He => PV.rq (pv_nilp (.s rfl rfl rfl) rfl rfl (by first | exact fun _ => rfl | exact id | exact fun h => (Bool.and_eq_true_iff.1 h).1 | simp_all))) ?_
                refine qm_q (i := 14) (l := [.o 13, .o 10]) rfl rfl rfl rfl (by kernel_rfl) rfl (fun He => PV.rq (pv_fa fa_105_0 (.s rfl rfl rfl) rfl rfl (by first | exact fun _ => rfl | exact id | exact fun h => (Bool.and_eq_true_iff.1 h).1 | simp_all))) ?_
                refine qm_q (i := 15) (l := [.o 14, .o 10]) rfl rfl rfl rfl (by kernel_rfl) rfl (fun He => RV.rq (q_ldc tc_44 (.s rfl rfl rfl) rfl rfl (by first | exact fun _ => rfl | exact id | exact fun h => (Bool.and_eq_true_iff.1 h).1 | simp_all) (by rfl))) ?_
                refine qm_calln (i := 16) [.o 15, .o 10] (by kernel_rfl) (by kernel_rfl) rfl rfl rfl rfl (by kernel_rfl) (by kernel_rfl) ⟨_, .s rfl rfl rfl, rfl⟩ cf_30 rfl (.c rfl .n) (shop_HoldsN _ sb k2.shop (by omega) (by omega)) fun hv2 => ?_
                refine qm_cat ?_
                refine qm_rd hv2 fun hr2 => ?_
                refine qm_keep ?_
                refine qm_q (i := 17) (l := [.o 11, .o 16, .o 10]) rfl rfl rfl rfl (by kernel_rfl) rfl (fun He => rq_call cf_29 (.s rfl rfl rfl) rfl (.c rfl (by first | exact fun _ => rfl | exact id | exact fun h => (Bool.and_eq_true_iff.1 h).1 | simp_all) (.c rfl (by first | exact fun _ => rfl | exact id | exact fun h => (Bool.and_eq_true_iff.1 h).1 | simp_all) .n)) (fun hg => ref_SameHolds _ _ _ _ k.shop.holds k2.shop.holds hr1.own hr2.own (by omega))) ?_
                refine qm_q (i := 18) (l := [.o 17, .o 10]) rfl rfl rfl rfl (by kernel_rfl) rfl (fun He => PV.rq (pv_not (.s rfl rfl rfl) rfl rfl (by first | exact fun _ => rfl | exact id | exact fun h => (Bool.and_eq_true_iff.1 h).1 | simp_all))) ?_
                refine qm_q (i := 19) (l := [.o 10, .o 18, .o 2]) rfl rfl rfl rfl (by kernel_rfl) rfl (fun He => PV.rq (pv_or (.s rfl rfl rfl) rfl rfl rfl (by intro hg; refine ⟨?_, fun hc => ?_⟩ <;> first | rfl | (rw [hc]; rfl) | simp_all))) ?_
                refine qm_q (i := 20) (l := [.o 19, .o 2]) rfl rfl rfl rfl (by kernel_rfl) rfl (fun He => PV.rq (pv_mv (.s rfl rfl rfl) rfl rfl (by first | exact fun _ => rfl | exact id | exact fun h => (Bool.and_eq_true_iff.1 h).1 | simp_all))) ?_
                refine qm_q (i := 21) (l := [.k 11, .o 20]) rfl rfl rfl rfl (by kernel_rfl) rfl (fun He => PV.rq (pv_mv (.s rfl rfl rfl) rfl rfl (by first | exact fun _ => rfl | exact id | exact fun h => (Bool.and_eq_true_iff.1 h).1 | simp_all))) ?_
                refine qm_q (i := 22) (l := [.k 13, .o 20]) rfl rfl rfl rfl (by kernel_rfl) rfl (fun He => PV.rq (pv_mv (.s rfl rfl rfl) rfl rfl (by first | exact fun _ => rfl | exact id | exact fun h => (Bool.and_eq_true_iff.1 h).1 | simp_all))) ?_
                refine qm_q (i := 23) (l := [.o 21, .o 22, .o 20]) rfl rfl rfl rfl (by kernel_rfl) rfl (fun He => rq_call cf_56 (.s rfl rfl rfl) rfl (.c rfl (by first | exact fun _ => rfl | exact id | exact fun h => (Bool.and_eq_true_iff.1 h).1 | simp_all) (.c rfl (by first | exact fun _ => rfl | exact id | exact fun h => (Bool.and_eq_true_iff.1 h).1 | simp_all) .n)) (fun hg => ref_SameRecords _ _ _ _ k.l k2.l hq1.own hq2.own (by omega))) ?_
                refine qm_q (i := 24) (l := [.o 23, .o 20]) rfl rfl rfl rfl (by kernel_rfl) rfl (fun He => PV.rq (pv_not (.s rfl rfl rfl) rfl rfl (by first | exact fun _ => rfl | exact id | exact fun h => (Bool.and_eq_true_iff.1 h).1 | simp_all))) ?_
                refine qm_q (i := 25) (l := [.o 20, .o 24, .o 2]) rfl rfl rfl rfl (by kernel_rfl) rfl (fun He => PV.rq (pv_or (.s rfl rfl rfl) rfl rfl rfl (by intro hg; refine ⟨?_, fun hc => ?_⟩ <;> first | rfl | (rw [hc]; rfl) | simp_all))) ?_
                refine qm_q (i := 26) (l := [.o 2, .o 25]) rfl rfl rfl rfl (by kernel_rfl) rfl (fun He => PV.rq (pv_and (.n rfl) rfl rfl rfl (fun _ => ⟨rfl, fun hc => by first | rfl | (rw [hc]; rfl) | simp_all⟩))) ?_
                refine qm_n (by kernel_rfl) (by kernel_rfl) (by kernel_rfl) (by kernel_rfl) (.c 2 rfl (.c 6 rfl (.c 7 rfl (.c 8 rfl (.c 11 rfl (.c 13 rfl (.c 77 rfl .n))))))) ?_
                refine r_cond _ rfl (fun h6 => ?_) (fun h6 => ?_)
                · exfalso; simp [hk] at h6
                · skip
                  refine r_skip ?_
                  refine r_seq ?_
                  refine r_seq ?_
                  refine r_plan _ [] mo (.c 2 rfl (.c 6 rfl (.c 7 rfl (.c 8 rfl (.c 11 rfl (.c 13 rfl .n)))))) Ent.rfl ?_
                  refine qm_q (i := 0) (l := [.k 13]) rfl rfl rfl rfl (by kernel_rfl) rfl (fun He => PV.rq (pv_mv (.n rfl) rfl rfl (fun _ => rfl))) ?_
                  refine qm_q (i := 1) (l := [.o 0]) rfl rfl rfl rfl (by kernel_rfl) rfl (fun He => PV.rq (pv_lens (Rd.len hq2) ⟨_, Try.underlying90⟩ (.n rfl) rfl rfl rfl rfl (fun _ => rfl))) ?_
                  refine qm_q (i := 2) (l := [.k 11]) rfl rfl rfl rfl (by kernel_rfl) rfl (fun He => PV.rq (pv_mv (.n rfl) rfl rfl (fun _ => rfl))) ?_
                  refine qm_q (i := 3) (l := [.o 2]) rfl rfl rfl rfl (by kernel_rfl) rfl (fun He => PV.rq (pv_lens (Rd.len hq1) ⟨_, Try.underlying90⟩ (.n rfl) rfl rfl rfl rfl (fun _ => rfl))) ?_
                  refine qm_q (i := 4) (l := [.o 1, .o 3]) rfl rfl rfl rfl (by kernel_rfl) rfl (fun He => PV.rq (pv_to (pv_lss (.n rfl) rfl rfl rfl (fun _ => ⟨rfl, rfl⟩)) (show _ = Value.bool false by simp [hl0]))) ?_
                  refine qm_q (i := 5) (l := [.o 4]) rfl rfl rfl rfl (by kernel_rfl) rfl (fun He => PV.rq (pv_mv (.n rfl) rfl rfl (fun _ => rfl))) ?_
                  refine qm_q (i := 6) (l := [.k 13, .o 5]) rfl rfl rfl rfl (by kernel_rfl) rfl (fun He => PV.rq (pv_mv (.s rfl rfl rfl) rfl rfl (by first | exact fun _ => rfl | exact id | exact fun h => (Bool.and_eq_true_iff.1 h).1 | simp_all))) ?_
                  refine qm_q (i := 7) (l := [.o 6, .o 5]) rfl rfl rfl rfl (by kernel_rfl) rfl (fun He => PV.rq (pv_lens (Rd.len hq2) ⟨_, Try.underlying90⟩ (.s rfl rfl rfl) rfl rfl rfl rfl (by first | exact fun _ => rfl | exact id | exact fun h => (Bool.and_eq_true_iff.1 h).1 | simp_all))) ?_
                  refine qm_q (i := 8) (l := [.k 11, .o 5]) rfl rfl rfl rfl (by kernel_rfl) rfl (fun He => PV.rq (pv_mv (.s rfl rfl rfl) rfl rfl (by first | exact fun _ => rfl | exact id | exact fun h => (Bool.and_eq_true_iff.1 h).1 | simp_all))) ?_
                  refine qm_q (i := 9) (l := [.o 8, .o 5]) rfl rfl rfl rfl (by kernel_rfl) rfl (fun He => PV.rq (pv_lens (Rd.len hq1) ⟨_, Try.underlying90⟩ (.s rfl rfl rfl) rfl rfl rfl rfl (by first | exact fun _ => rfl | exact id | exact fun h => (Bool.and_eq_true_iff.1 h).1 | simp_all))) ?_
                  refine qm_q (i := 10) (l := [.o 9, .o 5]) rfl rfl rfl rfl (by kernel_rfl) rfl (fun He => PV.rq (pv_add (by intro hg; simp at hg; omega) (.s rfl rfl rfl) rfl rfl rfl (by refine fun h => ⟨?_, ?_⟩ <;> first | rfl | exact h | exact (Bool.and_eq_true_iff.1 h).1 | simp_all))) ?_
                  refine qm_q (i := 11) (l := [.o 7, .o 10, .o 5]) rfl rfl rfl rfl (by kernel_rfl) rfl (fun He => PV.rq (pv_to (pv_gtr (.s rfl rfl rfl) rfl rfl rfl (by refine fun h => ⟨?_, ?_⟩ <;> first | rfl | exact h | exact (Bool.and_eq_true_iff.1 h).1 | simp_all)) (show _ = Value.bool false by simp [hl0]; omega))) ?_
                  refine qm_q (i := 12) (l := [.o 5, .o 11]) rfl rfl rfl rfl (by kernel_rfl) rfl (fun He => PV.rq (pv_or (.n rfl) rfl rfl rfl (fun _ => ⟨rfl, fun hc => by first | rfl | (rw [hc]; rfl) | simp_all⟩))) ?_
                  refine qm_q (i := 13) (l := [.o 12]) rfl rfl rfl rfl (by kernel_rfl) rfl (fun He => PV.rq (pv_mv (.n rfl) rfl rfl (fun _ => rfl))) ?_
                  refine qm_q (i := 14) (l := [.k 13, .o 13]) rfl rfl rfl rfl (by kernel_rfl) rfl (fun He => PV.rq (pv_mv (.s rfl rfl rfl) rfl rfl (by first | exact fun _ => rfl | exact id | exact fun h => (Bool.and_eq_true_iff.1 h).1 | simp_all))) ?_
                  refine qm_q (i := 15) (l := [.k 11, .o 13]) rfl rfl rfl rfl (by kernel_rfl) rfl (fun He => PV.rq (pv_mv (.s rfl rfl rfl) rfl rfl (by first | exact fun _ => rfl | exact id | exact fun h => (Bool.and_eq_true_iff.1 h).1 | simp_all))) ?_
                  refine qm_q (i := 16) (l := [.o 15, .o 13]) rfl rfl rfl rfl (by kernel_rfl) rfl (fun He => PV.rq (pv_lens (Rd.len hq1) ⟨_, Try.underlying90⟩ (.s rfl rfl rfl) rfl rfl rfl rfl (by first | exact fun _ => rfl | exact id | exact fun h => (Bool.and_eq_true_iff.1 h).1 | simp_all))) ?_
                  refine qm_q (i := 17) (l := [.o 14, .o 16, .o 13]) rfl rfl rfl rfl (by kernel_rfl) rfl (fun He => PV.rq (pv_slcg (l := 0) (h := k.l.length) Try.underlying90 (.ofA ta_103) hq2 (Nat.zero_le _) (by rw [List.length_map]; first | omega | (rw [hl0]; omega)) (.s rfl rfl rfl) rfl rfl (.inl ⟨rfl, rfl, rfl⟩) (.inr ⟨_, _, rfl, rfl, rfl⟩))) ?_
                  refine qm_q (i := 18) (l := [.k 11, .o 13]) rfl rfl rfl rfl (by kernel_rfl) rfl (fun He => PV.rq (pv_mv (.s rfl rfl rfl) rfl rfl (by first | exact fun _ => rfl | exact id | exact fun h => (Bool.and_eq_true_iff.1 h).1 | simp_all))) ?_
                  refine qm_q (i := 19) (l := [.o 17, .o 18, .o 13]) rfl rfl rfl rfl (by kernel_rfl) rfl (fun He => rq_call cf_56 (.s rfl rfl rfl) rfl (.c rfl (by first | exact fun _ => rfl | exact id | exact fun h => (Bool.and_eq_true_iff.1 h).1 | simp_all) (.c rfl (by first | exact fun _ => rfl | exact id | exact fun h => (Bool.and_eq_true_iff.1 h).1 | simp_all) .n)) (fun hg => fnv_tru (ref_SameRecords _ _ _ _ k.l k.l ((hq2.own.resl (Nat.zero_le _) (show k.l.length ≤ (k2.l.map rR).length by rw [List.length_map]; first | omega | (rw [hl0]; omega))).to (by rw [List.drop_zero, ← List.map_take, htk])) hq1.own (by omega)))) ?_
                  refine qm_q (i := 20) (l := [.o 19, .o 13]) rfl rfl rfl rfl (by kernel_rfl) rfl (fun He => PV.rq (pv_not (.s rfl rfl rfl) rfl rfl (by first | exact fun _ => rfl | exact id | exact fun h => (Bool.and_eq_true_iff.1 h).1 | simp_all))) ?_
                  refine qm_q (i := 21) (l := [.o 13, .o 20]) rfl rfl rfl rfl (by kernel_rfl) rfl (fun He => PV.rq (pv_or (.n rfl) rfl rfl rfl (fun _ => ⟨rfl, fun hc => by first | rfl | (rw [hc]; rfl) | simp_all⟩))) ?_
                  refine qm_q (i := 22) (l := [.o 21]) rfl rfl rfl rfl (by kernel_rfl) rfl (fun He => PV.rq (pv_mv (.n rfl) rfl rfl (fun _ => rfl))) ?_
                  refine qm_q (i := 23) (l := [.k 13, .o 22]) rfl rfl rfl rfl (by kernel_rfl) rfl (fun He => PV.rq (pv_mv (.s rfl rfl rfl) rfl rfl (by first | exact fun _ => rfl | exact id | exact fun h => (Bool.and_eq_true_iff.1 h).1 | simp_all))) ?_
                  refine qm_q (i := 24) (l := [.o 23, .o 22]) rfl rfl rfl rfl (by kernel_rfl) rfl (fun He => PV.rq (pv_lens (Rd.len hq2) ⟨_, Try.underlying90⟩ (.s rfl rfl rfl) rfl rfl rfl rfl (by first | exact fun _ => rfl | exact id | exact fun h => (Bool.and_eq_true_iff.1 h).1 | simp_all))) ?_
                  refine qm_q (i := 25) (l := [.k 11, .o 22]) rfl rfl rfl rfl (by kernel_rfl) rfl (fun He => PV.rq (pv_mv (.s rfl rfl rfl) rfl rfl (by first | exact fun _ => rfl | exact id | exact fun h => (Bool.and_eq_true_iff.1 h).1 | simp_all))) ?_
                  refine qm_q (i := 26) (l := [.o 25, .o 22]) rfl rfl rfl rfl (by kernel_rfl) rfl (fun He => PV.rq (pv_lens (Rd.len hq1) ⟨_, Try.underlying90⟩ (.s rfl rfl rfl) rfl rfl rfl rfl (by first | exact fun _ => rfl | exact id | exact fun h => (Bool.and_eq_true_iff.1 h).1 | simp_all))) ?_
                  refine qm_q (i := 27) (l := [.o 24, .o 26, .o 22]) rfl rfl rfl rfl (by kernel_rfl) rfl (fun He => PV.rq (pv_to (pv_gtr (.s rfl rfl rfl) rfl rfl rfl (by refine fun h => ⟨?_, ?_⟩ <;> first | rfl | exact h | exact (Bool.and_eq_true_iff.1 h).1 | simp_all)) (show _ = Value.bool false by simp [hl0]))) ?_
                  refine qm_q (i := 28) (l := [.o 27, .o 22]) rfl rfl rfl rfl (by kernel_rfl) rfl (fun He => PV.rq (pv_mv (.s rfl rfl rfl) rfl rfl (by first | exact fun _ => rfl | exact id | exact fun h => (Bool.and_eq_true_iff.1 h).1 | simp_all))) ?_
                  refine qm_q (i := 29) (l := [.k 13, .o 28]) rfl rfl rfl rfl (by kernel_rfl) rfl (fun He => rq_no (v := .bool false) (.s rfl rfl rfl) rfl) ?_
                  refine qm_q (i := 30) (l := [.k 11, .o 28]) rfl rfl rfl rfl (by kernel_rfl) rfl (fun He => rq_no (v := .bool false) (.s rfl rfl rfl) rfl) ?_
                  refine qm_q (i := 31) (l := [.o 30, .o 28]) rfl rfl rfl rfl (by kernel_rfl) rfl (fun He => rq_no (v := .bool false) (.s rfl rfl rfl) rfl) ?_
                  refine qm_q (i := 32) (l := [.o 29, .o 31, .o 28]) rfl rfl rfl rfl (by kernel_rfl) rfl (fun He => rq_no (v := .bool false) (.s rfl rfl rfl) rfl) ?_
                  refine qm_q (i := 33) (l := [.o 32, .o 28]) rfl rfl rfl rfl (by kernel_rfl) rfl (fun He => rq_no (v := .bool false) (.s rfl rfl rfl) rfl) ?_
                  refine qm_q (i := 34) (l := [.k 2, .o 28]) rfl rfl rfl rfl (by kernel_rfl) rfl (fun He => rq_no (v := .bool false) (.s rfl rfl rfl) rfl) ?_
                  refine qm_q (i := 35) (l := [.k 8, .o 28]) rfl rfl rfl rfl (by kernel_rfl) rfl (fun He => rq_no (v := .bool false) (.s rfl rfl rfl) rfl) ?_
                  refine qm_q (i := 36) (l := [.o 34, .o 35, .o 28]) rfl rfl rfl rfl (by kernel_rfl) rfl (fun He => rq_no (v := .bool false) (.s rfl rfl rfl) rfl) ?_
                  refine qm_q (i := 37) (l := [.o 36, .o 28]) rfl rfl rfl rfl (by kernel_rfl) rfl (fun He => rq_no (v := .bool false) (.s rfl rfl rfl) rfl) ?_
                  refine qm_q (i := 38) (l := [.o 33, .o 37, .o 28]) rfl rfl rfl rfl (by kernel_rfl) rfl (fun He => rq_no (v := .bool false) (.s rfl rfl rfl) rfl) ?_
                  refine qm_q (i := 39) (l := [.o 28, .o 38, .o 22]) rfl rfl rfl rfl (by kernel_rfl) rfl (fun He => PV.rq (pv_andf (.s rfl rfl rfl) rfl rfl (by first | exact fun _ => rfl | exact id | exact fun h => (Bool.and_eq_true_iff.1 h).1 | simp_all))) ?_
                  refine qm_q (i := 40) (l := [.o 22, .o 39]) rfl rfl rfl rfl (by kernel_rfl) rfl (fun He => PV.rq (pv_or (.n rfl) rfl rfl rfl (fun _ => ⟨rfl, fun hc => by first | rfl | (rw [hc]; rfl) | simp_all⟩))) ?_
                  refine qm_n (by kernel_rfl) (by kernel_rfl) (by kernel_rfl) (by kernel_rfl) (.c 2 rfl (.c 6 rfl (.c 7 rfl (.c 8 rfl (.c 11 rfl (.c 13 rfl (.c 118 rfl .n))))))) ?_
                  refine r_cond _ rfl (fun h7 => ?_) (fun h7 => ?_)
                  · exfalso; simp [hl0] at h7
                  · skip
                    refine r_skip ?_
                    refine r_seq ?_
                    refine r_region ?_
                    refine p_as rfl rfl ?_
                    refine o_keep (.c 2 rfl (.c 6 rfl (.c 7 rfl (.c 8 rfl (.c 11 rfl (.c 13 rfl (.c 14 rfl .n))))))) ?_
                    refine r_block ?_
                    refine r_loop_1 (fun (j : Nat) => [(14, true, .int .i64 (j : Int))]) (.c 2 rfl (.c 6 rfl (.c 7 rfl (.c 8 rfl (.c 11 rfl (.c 13 rfl .n)))))) (fun (j : Nat) => sl rv2 103 5 (k2.l.map rR) :: sl rv1 103 5 (k.l.map rR) :: blk b9 (cntL k.shop.c0 ++ cntL k.shop.c1) 52 :: sl hv1 67 3 (k.shop.holds.map rH) :: blk b7 (kpC k2 sb lv) 105 :: sl lv 103 5 (k2.l.map rR) :: shopP sb k2.shop :: blk b4 (ws.map vI) 42 :: H) (fun (j : Nat) => True) (fun (j : Nat) => k.l.length - j) (0) ?_ (.c 14 rfl .n) ?_ (fun j hI => ?_)
                    · trivial
                    · first | exact Ent.rfl | (repeat (first | exact Ent.rfl | refine Ent.c (SelB.ent) ?_ | refine Ent.c (SelS.ent) ?_ | refine Ent.cN ?_ | refine Ent.c (SelX.ent) ?_ | refine Ent.dropR ?_))
                    · skip
                      refine r_seq ?_
                      refine r_seq ?_
                      refine r_region ?_
                      refine p_mv rfl rfl ?_
                      refine p_mv rfl rfl ?_
                      refine l_op (x_p (pv_lens (Rd.len hq1) ⟨_, Try.underlying90⟩ (.n rfl) rfl rfl rfl rfl (fun _ => rfl)) rfl rfl ?_)
                      refine p_lss rfl rfl rfl ?_
                      refine p_mv rfl rfl ?_
                      refine l_op (x_p (pv_mv (.s rfl rfl rfl) rfl rfl (by first | exact fun _ => rfl | exact id | exact fun h => (Bool.and_eq_true_iff.1 h).1 | simp_all)) rfl rfl ?_)
                      refine l_op (x_p (pv_lens (Rd.len hq2) ⟨_, Try.underlying90⟩ (.s rfl rfl rfl) rfl rfl rfl rfl (by first | exact fun _ => rfl | exact id | exact fun h => (Bool.and_eq_true_iff.1 h).1 | simp_all)) rfl rfl ?_)
                      refine l_op (x_p (pv_mv (.s rfl rfl rfl) rfl rfl (by first | exact fun _ => rfl | exact id | exact fun h => (Bool.and_eq_true_iff.1 h).1 | simp_all)) rfl rfl ?_)
                      refine l_op (x_p (pv_lens (Rd.len hq1) ⟨_, Try.underlying90⟩ (.s rfl rfl rfl) rfl rfl rfl rfl (by first | exact fun _ => rfl | exact id | exact fun h => (Bool.and_eq_true_iff.1 h).1 | simp_all)) rfl rfl ?_)
                      refine l_op (x_p (pv_gtr (.s rfl rfl rfl) rfl rfl rfl (by refine fun h => ⟨?_, ?_⟩ <;> first | rfl | exact h | exact (Bool.and_eq_true_iff.1 h).1 | simp_all)) rfl rfl ?_)
                      refine l_op (x_p (pv_and (.n rfl) rfl rfl rfl (fun _ => ⟨rfl, fun hc => by first | rfl | (rw [hc]; rfl) | simp_all⟩)) rfl rfl ?_)
                      refine o_keep (.c 2 rfl (.c 6 rfl (.c 7 rfl (.c 8 rfl (.c 11 rfl (.c 13 rfl (.c 14 rfl (.c 129 rfl .n)))))))) ?_
                      refine r_cond _ rfl (fun h8 => ?_) (fun h8 => ?_)
                      · exfalso; simp [hl0] at h8
                      · skip
                        refine r_exit rfl ?_
                        refine r_end ?_
                        refine r_region ?_
                        refine p_mv rfl rfl ?_
                        refine p_add rfl rfl (by omega) rfl ?_
                        refine p_as rfl rfl ?_
                        refine o_keep (.c 2 rfl (.c 6 rfl (.c 7 rfl (.c 8 rfl .n)))) ?_
                        refine r_back_2 (i + 1) (k2) ?_ ?_ (Keep.app (.c 8 rfl .n) (.c 2 rfl (.c 6 rfl (.c 7 rfl .n)))) ?_
                        · exact ⟨by omega, hK2⟩
                        · omega
                        · refine Ent.c (keepP_close sb lv rfl rfl) ?_; first | exact Ent.rfl | (repeat (first | exact Ent.rfl | refine Ent.c (SelB.ent) ?_ | refine Ent.c (SelS.ent) ?_ | refine Ent.cN ?_ | refine Ent.c (SelX.ent) ?_ | refine Ent.dropR ?_))
              · skip
                have hl0 : k2.l = k.l := by rw [hk]
                have htk : k2.l.take k.l.length = k.l := by rw [hl0]; simp
                refine r_sel (keepP b7 k2) ?_
                refine r_ex2 fun sb lv => ?_
                refine r_cat ?_
                refine r_rd lv fun hrl => ?_
                refine r_plan _ [] mo (.c 2 rfl (.c 6 rfl (.c 7 rfl (.c 8 rfl (.c 9 rfl (.c 10 rfl (.c 11 rfl (.c 12 rfl (.c 13 rfl .n))))))))) Ent.rfl ?_
                refine qm_q (i := 0) (l := [.k 12]) rfl rfl rfl rfl (by kernel_rfl) rfl (fun He => PV.rq (pv_mv (.n rfl) rfl rfl (fun _ => rfl))) ?_
                refine qm_q (i := 1) (l := [.o 0]) rfl rfl rfl rfl (by kernel_rfl) rfl (fun He => PV.rq (pv_to (pv_neq (.n rfl) rfl rfl rfl (fun _ => ⟨rfl, rfl⟩)) (show _ = Value.bool false by simp [hc]))) ?_
                refine qm_q (i := 2) (l := [.o 1]) rfl rfl rfl rfl (by kernel_rfl) rfl (fun He => PV.rq (pv_mv (.n rfl) rfl rfl (fun _ => rfl))) ?_
                refine qm_q (i := 3) (l := [.k 9, .o 2]) rfl rfl rfl rfl (by kernel_rfl) rfl (fun He => rq_no (v := .bool false) (.s rfl rfl rfl) rfl) ?_
                refine qm_q (i := 4) (l := [.k 7, .o 2]) rfl rfl rfl rfl (by kernel_rfl) rfl (fun He => rq_no (v := .bool false) (.s rfl rfl rfl) rfl) ?_
                refine qm_q (i := 5) (l := [.o 4, .o 2]) rfl rfl rfl rfl (by kernel_rfl) rfl (fun He => rq_no (v := .bool false) (.s rfl rfl rfl) rfl) ?_
                refine qm_q (i := 6) (l := [.o 5, .o 2]) rfl rfl rfl rfl (by kernel_rfl) rfl (fun He => rq_no (v := .bool false) (.s rfl rfl rfl) rfl) ?_
                refine qm_q (i := 7) (l := [.o 6, .o 2]) rfl rfl rfl rfl (by kernel_rfl) rfl (fun He => rq_no (v := .bool false) (.s rfl rfl rfl) rfl) ?_
                refine qm_q (i := 8) (l := [.o 7, .o 2]) rfl rfl rfl rfl (by kernel_rfl) rfl (fun He => rq_no (v := .bool false) (.s rfl rfl rfl) rfl) ?_
                refine qm_q (i := 9) (l := [.o 3, .o 8, .o 2]) rfl rfl rfl rfl (by kernel_rfl) rfl (fun He => rq_no (v := .bool false) (.s rfl rfl rfl) rfl) ?_
                refine qm_q (i := 10) (l := [.o 9, .o 2]) rfl rfl rfl rfl (by kernel_rfl) rfl (fun He => rq_no (v := .bool false) (.s rfl rfl rfl) rfl) ?_
                refine qm_q (i := 11) (l := [.k 10, .o 10]) rfl rfl rfl rfl (by kernel_rfl) rfl (fun He => rq_no (v := .bool false) (.s rfl rfl rfl) rfl) ?_
                refine qm_q (i := 12) (l := [.k 7, .o 10]) rfl rfl rfl rfl (by kernel_rfl) rfl (fun He => rq_no (v := .bool false) (.s rfl rfl rfl) rfl) ?_
                refine qm_q (i := 13) (l := [.o 12, .o 10]) rfl rfl rfl rfl (by kernel_rfl) rfl (fun He => rq_no (v := .bool false) (.s rfl rfl rfl) rfl) ?_
                refine qm_q (i := 14) (l := [.o 13, .o 10]) rfl rfl rfl rfl (by kernel_rfl) rfl (fun He => rq_no (v := .bool false) (.s rfl rfl rfl) rfl) ?_
                refine qm_q (i := 15) (l := [.o 14, .o 10]) rfl rfl rfl rfl (by kernel_rfl) rfl (fun He => rq_no (v := .bool false) (.s rfl rfl rfl) rfl) ?_
                refine qm_q (i := 16) (l := [.o 15, .o 10]) rfl rfl rfl rfl (by kernel_rfl) rfl (fun He => rq_no (v := .bool false) (.s rfl rfl rfl) rfl) ?_
                refine qm_q (i := 17) (l := [.o 11, .o 16, .o 10]) rfl rfl rfl rfl (by kernel_rfl) rfl (fun He => rq_no (v := .bool false) (.s rfl rfl rfl) rfl) ?_
                refine qm_q (i := 18) (l := [.o 17, .o 10]) rfl rfl rfl rfl (by kernel_rfl) rfl (fun He => rq_no (v := .bool false) (.s rfl rfl rfl) rfl) ?_
                refine qm_q (i := 19) (l := [.o 10, .o 18, .o 2]) rfl rfl rfl rfl (by kernel_rfl) rfl (fun He => rq_no (v := .bool false) (.s rfl rfl rfl) rfl) ?_
                refine qm_q (i := 20) (l := [.o 19, .o 2]) rfl rfl rfl rfl (by kernel_rfl) rfl (fun He => rq_no (v := .bool false) (.s rfl rfl rfl) rfl) ?_
                refine qm_q (i := 21) (l := [.k 11, .o 20]) rfl rfl rfl rfl (by kernel_rfl) rfl (fun He => rq_no (v := .bool false) (.s rfl rfl rfl) rfl) ?_
                refine qm_q (i := 22) (l := [.k 13, .o 20]) rfl rfl rfl rfl (by kernel_rfl) rfl (fun He => rq_no (v := .bool false) (.s rfl rfl rfl) rfl) ?_
                refine qm_q (i := 23) (l := [.o 21, .o 22, .o 20]) rfl rfl rfl rfl (by kernel_rfl) rfl (fun He => rq_no (v := .bool false) (.s rfl rfl rfl) rfl) ?_
                refine qm_q (i := 24) (l := [.o 23, .o 20]) rfl rfl rfl rfl (by kernel_rfl) rfl (fun He => rq_no (v := .bool false) (.s rfl rfl rfl) rfl) ?_
                refine qm_q (i := 25) (l := [.o 20, .o 24, .o 2]) rfl rfl rfl rfl (by kernel_rfl) rfl (fun He => rq_no (v := .bool false) (.s rfl rfl rfl) rfl) ?_
                refine qm_q (i := 26) (l := [.o 2, .o 25]) rfl rfl rfl rfl (by kernel_rfl) rfl (fun He => PV.rq (pv_andf (.n rfl) rfl rfl (fun _ => rfl))) ?_
                refine qm_n (by kernel_rfl) (by kernel_rfl) (by kernel_rfl) (by kernel_rfl) (.c 2 rfl (.c 6 rfl (.c 7 rfl (.c 8 rfl (.c 11 rfl (.c 13 rfl (.c 77 rfl .n))))))) ?_
                refine r_cond _ rfl (fun h9 => ?_) (fun h9 => ?_)
                · simp at h9
                · skip
                  refine r_skip ?_
                  refine r_seq ?_
                  refine r_seq ?_
                  refine r_plan _ [] mo (.c 2 rfl (.c 6 rfl (.c 7 rfl (.c 8 rfl (.c 11 rfl (.c 13 rfl .n)))))) Ent.rfl ?_
                  refine qm_q (i := 0) (l := [.k 13]) rfl rfl rfl rfl (by kernel_rfl) rfl (fun He => PV.rq (pv_mv (.n rfl) rfl rfl (fun _ => rfl))) ?_
                  refine qm_q (i := 1) (l := [.o 0]) rfl rfl rfl rfl (by kernel_rfl) rfl (fun He => PV.rq (pv_lens (Rd.len hq2) ⟨_, Try.underlying90⟩ (.n rfl) rfl rfl rfl rfl (fun _ => rfl))) ?_
                  refine qm_q (i := 2) (l := [.k 11]) rfl rfl rfl rfl (by kernel_rfl) rfl (fun He => PV.rq (pv_mv (.n rfl) rfl rfl (fun _ => rfl))) ?_
                  refine qm_q (i := 3) (l := [.o 2]) rfl rfl rfl rfl (by kernel_rfl) rfl (fun He => PV.rq (pv_lens (Rd.len hq1) ⟨_, Try.underlying90⟩ (.n rfl) rfl rfl rfl rfl (fun _ => rfl))) ?_
                  refine qm_q (i := 4) (l := [.o 1, .o 3]) rfl rfl rfl rfl (by kernel_rfl) rfl (fun He => PV.rq (pv_to (pv_lss (.n rfl) rfl rfl rfl (fun _ => ⟨rfl, rfl⟩)) (show _ = Value.bool false by simp [hl0]))) ?_
                  refine qm_q (i := 5) (l := [.o 4]) rfl rfl rfl rfl (by kernel_rfl) rfl (fun He => PV.rq (pv_mv (.n rfl) rfl rfl (fun _ => rfl))) ?_
                  refine qm_q (i := 6) (l := [.k 13, .o 5]) rfl rfl rfl rfl (by kernel_rfl) rfl (fun He => PV.rq (pv_mv (.s rfl rfl rfl) rfl rfl (by first | exact fun _ => rfl | exact id | exact fun h => (Bool.and_eq_true_iff.1 h).1 | simp_all))) ?_
                  refine qm_q (i := 7) (l := [.o 6, .o 5]) rfl rfl rfl rfl (by kernel_rfl) rfl (fun He => PV.rq (pv_lens (Rd.len hq2) ⟨_, Try.underlying90⟩ (.s rfl rfl rfl) rfl rfl rfl rfl (by first | exact fun _ => rfl | exact id | exact fun h => (Bool.and_eq_true_iff.1 h).1 | simp_all))) ?_
                  refine qm_q (i := 8) (l := [.k 11, .o 5]) rfl rfl rfl rfl (by kernel_rfl) rfl (fun He => PV.rq (pv_mv (.s rfl rfl rfl) rfl rfl (by first | exact fun _ => rfl | exact id | exact fun h => (Bool.and_eq_true_iff.1 h).1 | simp_all))) ?_
                  refine qm_q (i := 9) (l := [.o 8, .o 5]) rfl rfl rfl rfl (by kernel_rfl) rfl (fun He => PV.rq (pv_lens (Rd.len hq1) ⟨_, Try.underlying90⟩ (.s rfl rfl rfl) rfl rfl rfl rfl (by first | exact fun _ => rfl | exact id | exact fun h => (Bool.and_eq_true_iff.1 h).1 | simp_all))) ?_
                  refine qm_q (i := 10) (l := [.o 9, .o 5]) rfl rfl rfl rfl (by kernel_rfl) rfl (fun He => PV.rq (pv_add (by intro hg; simp at hg; omega) (.s rfl rfl rfl) rfl rfl rfl (by refine fun h => ⟨?_, ?_⟩ <;> first | rfl | exact h | exact (Bool.and_eq_true_iff.1 h).1 | simp_all))) ?_
                  refine qm_q (i := 11) (l := [.o 7, .o 10, .o 5]) rfl rfl rfl rfl (by kernel_rfl) rfl (fun He => PV.rq (pv_to (pv_gtr (.s rfl rfl rfl) rfl rfl rfl (by refine fun h => ⟨?_, ?_⟩ <;> first | rfl | exact h | exact (Bool.and_eq_true_iff.1 h).1 | simp_all)) (show _ = Value.bool false by simp [hl0]; omega))) ?_
                  refine qm_q (i := 12) (l := [.o 5, .o 11]) rfl rfl rfl rfl (by kernel_rfl) rfl (fun He => PV.rq (pv_or (.n rfl) rfl rfl rfl (fun _ => ⟨rfl, fun hc => by first | rfl | (rw [hc]; rfl) | simp_all⟩))) ?_
                  refine qm_q (i := 13) (l := [.o 12]) rfl rfl rfl rfl (by kernel_rfl) rfl (fun He => PV.rq (pv_mv (.n rfl) rfl rfl (fun _ => rfl))) ?_
                  refine qm_q (i := 14) (l := [.k 13, .o 13]) rfl rfl rfl rfl (by kernel_rfl) rfl (fun He => PV.rq (pv_mv (.s rfl rfl rfl) rfl rfl (by first | exact fun _ => rfl | exact id | exact fun h => (Bool.and_eq_true_iff.1 h).1 | simp_all))) ?_
                  refine qm_q (i := 15) (l := [.k 11, .o 13]) rfl rfl rfl rfl (by kernel_rfl) rfl (fun He => PV.rq (pv_mv (.s rfl rfl rfl) rfl rfl (by first | exact fun _ => rfl | exact id | exact fun h => (Bool.and_eq_true_iff.1 h).1 | simp_all))) ?_
                  refine qm_q (i := 16) (l := [.o 15, .o 13]) rfl rfl rfl rfl (by kernel_rfl) rfl (fun He => PV.rq (pv_lens (Rd.len hq1) ⟨_, Try.underlying90⟩ (.s rfl rfl rfl) rfl rfl rfl rfl (by first | exact fun _ => rfl | exact id | exact fun h => (Bool.and_eq_true_iff.1 h).1 | simp_all))) ?_
                  refine qm_q (i := 17) (l := [.o 14, .o 16, .o 13]) rfl rfl rfl rfl (by kernel_rfl) rfl (fun He => PV.rq (pv_slcg (l := 0) (h := k.l.length) Try.underlying90 (.ofA ta_103) hq2 (Nat.zero_le _) (by rw [List.length_map]; first | omega | (rw [hl0]; omega)) (.s rfl rfl rfl) rfl rfl (.inl ⟨rfl, rfl, rfl⟩) (.inr ⟨_, _, rfl, rfl, rfl⟩))) ?_
                  refine qm_q (i := 18) (l := [.k 11, .o 13]) rfl rfl rfl rfl (by kernel_rfl) rfl (fun He => PV.rq (pv_mv (.s rfl rfl rfl) rfl rfl (by first | exact fun _ => rfl | exact id | exact fun h => (Bool.and_eq_true_iff.1 h).1 | simp_all))) ?_
                  refine qm_q (i := 19) (l := [.o 17, .o 18, .o 13]) rfl rfl rfl rfl (by kernel_rfl) rfl (fun He => rq_call cf_56 (.s rfl rfl rfl) rfl (.c rfl (by first | exact fun _ => rfl | exact id | exact fun h => (Bool.and_eq_true_iff.1 h).1 | simp_all) (.c rfl (by first | exact fun _ => rfl | exact id | exact fun h => (Bool.and_eq_true_iff.1 h).1 | simp_all) .n)) (fun hg => fnv_tru (ref_SameRecords _ _ _ _ k.l k.l ((hq2.own.resl (Nat.zero_le _) (show k.l.length ≤ (k2.l.map rR).length by rw [List.length_map]; first | omega | (rw [hl0]; omega))).to (by rw [List.drop_zero, ← List.map_take, htk])) hq1.own (by omega)))) ?_
                  refine qm_q (i := 20) (l := [.o 19, .o 13]) rfl rfl rfl rfl (by kernel_rfl) rfl (fun He => PV.rq (pv_not (.s rfl rfl rfl) rfl rfl (by first | exact fun _ => rfl | exact id | exact fun h => (Bool.and_eq_true_iff.1 h).1 | simp_all))) ?_
                  refine qm_q (i := 21) (l := [.o 13, .o 20]) rfl rfl rfl rfl (by kernel_rfl) rfl (fun He => PV.rq (pv_or (.n rfl) rfl rfl rfl (fun _ => ⟨rfl, fun hc => by first | rfl | (rw [hc]; rfl) | simp_all⟩))) ?_
                  refine qm_q (i := 22) (l := [.o 21]) rfl rfl rfl rfl (by kernel_rfl) rfl (fun He => PV.rq (pv_mv (.n rfl) rfl rfl (fun _ => rfl))) ?_
                  refine qm_q (i := 23) (l := [.k 13, .o 22]) rfl rfl rfl rfl (by kernel_rfl) rfl (fun He => PV.rq (pv_mv (.s rfl rfl rfl) rfl rfl (by first | exact fun _ => rfl | exact id | exact fun h => (Bool.and_eq_true_iff.1 h).1 | simp_all))) ?_
                  refine qm_q (i := 24) (l := [.o 23, .o 22]) rfl rfl rfl rfl (by kernel_rfl) rfl (fun He => PV.rq (pv_lens (Rd.len hq2) ⟨_, Try.underlying90⟩ (.s rfl rfl rfl) rfl rfl rfl rfl (by first | exact fun _ => rfl | exact id | exact fun h => (Bool.and_eq_true_iff.1 h).1 | simp_all))) ?_
                  refine qm_q (i := 25) (l := [.k 11, .o 22]) rfl rfl rfl rfl (by kernel_rfl) rfl (fun He => PV.rq (pv_mv (.s rfl rfl rfl) rfl rfl (by first | exact fun _ => rfl | exact id | exact fun h => (Bool.and_eq_true_iff.1 h).1 | simp_all))) ?_
                  refine qm_q (i := 26) (l := [.o 25, .o 22]) rfl rfl rfl rfl (by kernel_rfl) rfl (fun He => PV.rq (pv_lens (Rd.len hq1) ⟨_, Try.underlying90⟩ (.s rfl rfl rfl) rfl rfl rfl rfl (by first | exact fun _ => rfl | exact id | exact fun h => (Bool.and_eq_true_iff.1 h).1 | simp_all))) ?_
                  refine qm_q (i := 27) (l := [.o 24, .o 26, .o 22]) rfl rfl rfl rfl (by kernel_rfl) rfl (fun He => PV.rq (pv_to (pv_gtr (.s rfl rfl rfl) rfl rfl rfl (by refine fun h => ⟨?_, ?_⟩ <;> first | rfl | exact h | exact (Bool.and_eq_true_iff.1 h).1 | simp_all)) (show _ = Value.bool false by simp [hl0]))) ?_
                  refine qm_q (i := 28) (l := [.o 27, .o 22]) rfl rfl rfl rfl (by kernel_rfl) rfl (fun He => PV.rq (pv_mv (.s rfl rfl rfl) rfl rfl (by first | exact fun _ => rfl | exact id | exact fun h => (Bool.and_eq_true_iff.1 h).1 | simp_all))) ?_
                  refine qm_q (i := 29) (l := [.k 13, .o 28]) rfl rfl rfl rfl (by kernel_rfl) rfl (fun He => rq_no (v := .bool false) (.s rfl rfl rfl) rfl) ?_
                  refine qm_q (i := 30) (l := [.k 11, .o 28]) rfl rfl rfl rfl (by kernel_rfl) rfl (fun He => rq_no (v := .bool false) (.s rfl rfl rfl) rfl) ?_
                  refine qm_q (i := 31) (l := [.o 30, .o 28]) rfl rfl rfl rfl (by kernel_rfl) rfl (fun He => rq_no (v := .bool false) (.s rfl rfl rfl) rfl) ?_
                  refine qm_q (i := 32) (l := [.o 29, .o 31, .o 28]) rfl rfl rfl rfl (by kernel_rfl) rfl (fun He => rq_no (v := .bool false) (.s rfl rfl rfl) rfl) ?_
                  refine qm_q (i := 33) (l := [.o 32, .o 28]) rfl rfl rfl rfl (by kernel_rfl) rfl (fun He => rq_no (v := .bool false) (.s rfl rfl rfl) rfl) ?_
                  refine qm_q (i := 34) (l := [.k 2, .o 28]) rfl rfl rfl rfl (by kernel_rfl) rfl (fun He => rq_no (v := .bool false) (.s rfl rfl rfl) rfl) ?_
                  refine qm_q (i := 35) (l := [.k 8, .o 28]) rfl rfl rfl rfl (by kernel_rfl) rfl (fun He => rq_no (v := .bool false) (.s rfl rfl rfl) rfl) ?_
                  refine qm_q (i := 36) (l := [.o 34, .o 35, .o 28]) rfl rfl rfl rfl (by kernel_rfl) rfl (fun He => rq_no (v := .bool false) (.s rfl rfl rfl) rfl) ?_
                  refine qm_q (i := 37) (l := [.o 36, .o 28]) rfl rfl rfl rfl (by kernel_rfl) rfl (fun He => rq_no (v := .bool false) (.s rfl rfl rfl) rfl) ?_
                  refine qm_q (i := 38) (l := [.o 33, .o 37, .o 28]) rfl rfl rfl rfl (by kernel_rfl) rfl (fun He => rq_no (v := .bool false) (.s rfl rfl rfl) rfl) ?_
                  refine qm_q (i := 39) (l := [.o 28, .o 38, .o 22]) rfl rfl rfl rfl (by kernel_rfl) rfl (fun He => PV.rq (pv_andf (.s rfl rfl rfl) rfl rfl (by first | exact fun _ => rfl | exact id | exact fun h => (Bool.and_eq_true_iff.1 h).1 | simp_all))) ?_
                  refine qm_q (i := 40) (l := [.o 22, .o 39]) rfl rfl rfl rfl (by kernel_rfl) rfl (fun He => PV.rq (pv_or (.n rfl) rfl rfl rfl (fun _ => ⟨rfl, fun hc => by first | rfl | (rw [hc]; rfl) | simp_all⟩))) ?_
                  refine qm_n (by kernel_rfl) (by kernel_rfl) (by kernel_rfl) (by kernel_rfl) (.c 2 rfl (.c 6 rfl (.c 7 rfl (.c 8 rfl (.c 11 rfl (.c 13 rfl (.c 118 rfl .n))))))) ?_
                  refine r_cond _ rfl (fun h10 => ?_) (fun h10 => ?_)
                  · exfalso; simp [hl0] at h10
                  · skip
                    refine r_skip ?_
                    refine r_seq ?_
                    refine r_region ?_
                    refine p_as rfl rfl ?_
                    refine o_keep (.c 2 rfl (.c 6 rfl (.c 7 rfl (.c 8 rfl (.c 11 rfl (.c 13 rfl (.c 14 rfl .n))))))) ?_
                    refine r_block ?_
                    refine r_loop_1 (fun (j : Nat) => [(14, true, .int .i64 (j : Int))]) (.c 2 rfl (.c 6 rfl (.c 7 rfl (.c 8 rfl (.c 11 rfl (.c 13 rfl .n)))))) (fun (j : Nat) => sl rv2 103 5 (k2.l.map rR) :: sl rv1 103 5 (k.l.map rR) :: blk b9 (cntL k.shop.c0 ++ cntL k.shop.c1) 52 :: sl hv1 67 3 (k.shop.holds.map rH) :: blk b7 (kpC k2 sb lv) 105 :: sl lv 103 5 (k2.l.map rR) :: shopP sb k2.shop :: blk b4 (ws.map vI) 42 :: H) (fun (j : Nat) => True) (fun (j : Nat) => k.l.length - j) (0) ?_ (.c 14 rfl .n) ?_ (fun j hI => ?_)
                    · trivial
                    · first | exact Ent.rfl | (repeat (first | exact Ent.rfl | refine Ent.c (SelB.ent) ?_ | refine Ent.c (SelS.ent) ?_ | refine Ent.cN ?_ | refine Ent.c (SelX.ent) ?_ | refine Ent.dropR ?_))
                    · skip
                      refine r_seq ?_
                      refine r_seq ?_
                      refine r_region ?_
                      refine p_mv rfl rfl ?_
                      refine p_mv rfl rfl ?_
                      refine l_op (x_p (pv_lens (Rd.len hq1) ⟨_, Try.underlying90⟩ (.n rfl) rfl rfl rfl rfl (fun _ => rfl)) rfl rfl ?_)
                      refine p_lss rfl rfl rfl ?_
                      refine p_mv rfl rfl ?_
                      refine l_op (x_p (pv_mv (.s rfl rfl rfl) rfl rfl (by first | exact fun _ => rfl | exact id | exact fun h => (Bool.and_eq_true_iff.1 h).1 | simp_all)) rfl rfl ?_)
                      refine l_op (x_p (pv_lens (Rd.len hq2) ⟨_, Try.underlying90⟩ (.s rfl rfl rfl) rfl rfl rfl rfl (by first | exact fun _ => rfl | exact id | exact fun h => (Bool.and_eq_true_iff.1 h).1 | simp_all)) rfl rfl ?_)
                      refine l_op (x_p (pv_mv (.s rfl rfl rfl) rfl rfl (by first | exact fun _ => rfl | exact id | exact fun h => (Bool.and_eq_true_iff.1 h).1 | simp_all)) rfl rfl ?_)
                      refine l_op (x_p (pv_lens (Rd.len hq1) ⟨_, Try.underlying90⟩ (.s rfl rfl rfl) rfl rfl rfl rfl (by first | exact fun _ => rfl | exact id | exact fun h => (Bool.and_eq_true_iff.1 h).1 | simp_all)) rfl rfl ?_)
                      refine l_op (x_p (pv_gtr (.s rfl rfl rfl) rfl rfl rfl (by refine fun h => ⟨?_, ?_⟩ <;> first | rfl | exact h | exact (Bool.and_eq_true_iff.1 h).1 | simp_all)) rfl rfl ?_)
                      refine l_op (x_p (pv_and (.n rfl) rfl rfl rfl (fun _ => ⟨rfl, fun hc => by first | rfl | (rw [hc]; rfl) | simp_all⟩)) rfl rfl ?_)
                      refine o_keep (.c 2 rfl (.c 6 rfl (.c 7 rfl (.c 8 rfl (.c 11 rfl (.c 13 rfl (.c 14 rfl (.c 129 rfl .n)))))))) ?_
                      refine r_cond _ rfl (fun h11 => ?_) (fun h11 => ?_)
                      · exfalso; simp [hl0] at h11
                      · skip
                        refine r_exit rfl ?_
                        refine r_end ?_
                        refine r_region ?_
                        refine p_mv rfl rfl ?_
                        refine p_add rfl rfl (by omega) rfl ?_
                        refine p_as rfl rfl ?_
                        refine o_keep (.c 2 rfl (.c 6 rfl (.c 7 rfl (.c 8 rfl .n)))) ?_
                        refine r_back_2 (i + 1) (k2) ?_ ?_ (Keep.app (.c 8 rfl .n) (.c 2 rfl (.c 6 rfl (.c 7 rfl .n)))) ?_
                        · exact ⟨by omega, hK2⟩
                        · omega
                        · refine Ent.c (keepP_close sb lv rfl rfl) ?_; first | exact Ent.rfl | (repeat (first | exact Ent.rfl | refine Ent.c (SelB.ent) ?_ | refine Ent.c (SelS.ent) ?_ | refine Ent.cN ?_ | refine Ent.c (SelX.ent) ?_ | refine Ent.dropR ?_))
              · skip
                have htk : k2.l.take k.l.length = k.l := by rw [hl2]; simp
                have hlast : k2.l[k.l.length]? = some r := by rw [hl2]; simp
                have hlen2 : k2.l.length = k.l.length + 1 := by rw [hl2]; simp
                refine r_sel (keepP b7 k2) ?_
                refine r_ex2 fun sb lv => ?_
                refine r_cat ?_
                refine r_rd lv fun hrl => ?_
                refine r_plan _ [] mo (.c 2 rfl (.c 6 rfl (.c 7 rfl (.c 8 rfl (.c 9 rfl (.c 10 rfl (.c 11 rfl (.c 12 rfl (.c 13 rfl .n))))))))) Ent.rfl ?_
                refine qm_q (i := 0) (l := [.k 12]) rfl rfl rfl rfl (by kernel_rfl) rfl (fun He => PV.rq (pv_mv (.n rfl) rfl rfl (fun _ => rfl))) ?_
                refine qm_q (i := 1) (l := [.o 0]) rfl rfl rfl rfl (by kernel_rfl) rfl (fun He => PV.rq (pv_to (pv_neq (.n rfl) rfl rfl rfl (fun _ => ⟨rfl, rfl⟩)) (show _ = Value.bool false by simp [hc]))) ?_
                refine qm_q (i := 2) (l := [.o 1]) rfl rfl rfl rfl (by kernel_rfl) rfl (fun He => PV.rq (pv_mv (.n rfl) rfl rfl (fun _ => rfl))) ?_
                refine qm_q (i := 3) (l := [.k 9, .o 2]) rfl rfl rfl rfl (by kernel_rfl) rfl (fun He => rq_no (v := .bool false) (.s rfl rfl rfl) rfl) ?_
                refine qm_q (i := 4) (l := [.k 7, .o 2]) rfl rfl rfl rfl (by kernel_rfl) rfl (fun He => rq_no (v := .bool false) (.s rfl rfl rfl) rfl) ?_
                refine qm_q (i := 5) (l := [.o 4, .o 2]) rfl rfl rfl rfl (by kernel_rfl) rfl (fun He => rq_no (v := .bool false) (.s rfl rfl rfl) rfl) ?_
                refine qm_q (i := 6) (l := [.o 5, .o 2]) rfl rfl rfl rfl (by kernel_rfl) rfl (fun He => rq_no (v := .bool false) (.s rfl rfl rfl) rfl) ?_
                refine qm_q (i := 7) (l := [.o 6, .o 2]) rfl rfl rfl rfl (by kernel_rfl) rfl (fun He => rq_no (v := .bool false) (.s rfl rfl rfl) rfl) ?_
                refine qm_q (i := 8) (l := [.o 7, .o 2]) rfl rfl rfl rfl (by kernel_rfl) rfl (fun He => rq_no (v := .bool false) (.s rfl rfl rfl) rfl) ?_
                refine qm_q (i := 9) (l := [.o 3, .o 8, .o 2]) rfl rfl rfl rfl (by kernel_rfl) rfl (fun He => rq_no (v := .bool false) (.s rfl rfl rfl) rfl) ?_
                refine qm_q (i := 10) (l := [.o 9, .o 2]) rfl rfl rfl rfl (by kernel_rfl) rfl (fun He => rq_no (v := .bool false) (.s rfl rfl rfl) rfl) ?_
                refine qm_q (i := 11) (l := [.k 10, .o 10]) rfl rfl rfl rfl (by kernel_rfl) rfl (fun He => rq_no (v := .bool false) (.s rfl rfl rfl) rfl) ?_
                refine qm_q (i := 12) (l := [.k 7, .o 10]) rfl rfl rfl rfl (by kernel_rfl) rfl (fun He => rq_no (v := .bool false) (.s rfl rfl rfl) rfl) ?_
                refine qm_q (i := 13) (l := [.o 12, .o 10]) rfl rfl rfl rfl (by kernel_rfl) rfl (fun He => rq_no (v := .bool false) (.s rfl rfl rfl) rfl) ?_
                refine qm_q (i := 14) (l := [.o 13, .o 10]) rfl rfl rfl rfl (by kernel_rfl) rfl (fun He => rq_no (v := .bool false) (.s rfl rfl rfl) rfl) ?_
                refine qm_q (i := 15) (l := [.o 14, .o 10]) rfl rfl rfl rfl (by kernel_rfl) rfl (fun He => rq_no (v := .bool false) (.s rfl rfl rfl) rfl) ?_
                refine qm_q (i := 16) (l := [.o 15, .o 10]) rfl rfl rfl rfl (by kernel_rfl) rfl (fun He => rq_no (v := .bool false) (.s rfl rfl rfl) rfl) ?_
                refine qm_q (i := 17) (l := [.o 11, .o 16, .o 10]) rfl rfl rfl rfl (by kernel_rfl) rfl (fun He => rq_no (v := .bool false) (.s rfl rfl rfl) rfl) ?_
                refine qm_q (i := 18) (l := [.o 17, .o 10]) rfl rfl rfl rfl (by kernel_rfl) rfl (fun He => rq_no (v := .bool false) (.s rfl rfl rfl) rfl) ?_
                refine qm_q (i := 19) (l := [.o 10, .o 18, .o 2]) rfl rfl rfl rfl (by kernel_rfl) rfl (fun He => rq_no (v := .bool false) (.s rfl rfl rfl) rfl) ?_
                refine qm_q (i := 20) (l := [.o 19, .o 2]) rfl rfl rfl rfl (by kernel_rfl) rfl (fun He => rq_no (v := .bool false) (.s rfl rfl rfl) rfl) ?_
                refine qm_q (i := 21) (l := [.k 11, .o 20]) rfl rfl rfl rfl (by kernel_rfl) rfl (fun He => rq_no (v := .bool false) (.s rfl rfl rfl) rfl) ?_
                refine qm_q (i := 22) (l := [.k 13, .o 20]) rfl rfl rfl rfl (by kernel_rfl) rfl (fun He => rq_no (v := .bool false) (.s rfl rfl rfl) rfl) ?_
                refine qm_q (i := 23) (l := [.o 21, .o 22, .o 20]) rfl rfl rfl rfl (by kernel_rfl) rfl (fun He => rq_no (v := .bool false) (.s rfl rfl rfl) rfl) ?_
                refine qm_q (i := 24) (l := [.o 23, .o 20]) rfl rfl rfl rfl (by kernel_rfl) rfl (fun He => rq_no (v := .bool false) (.s rfl rfl rfl) rfl) ?_
                refine qm_q (i := 25) (l := [.o 20, .o 24, .o 2]) rfl rfl rfl rfl (by kernel_rfl) rfl (fun He => rq_no (v := .bool false) (.s rfl rfl rfl) rfl) ?_
                refine qm_q (i := 26) (l := [.o 2, .o 25]) rfl rfl rfl rfl (by kernel_rfl) rfl (fun He => PV.rq (pv_andf (.n rfl) rfl rfl (fun _ => rfl))) ?_
                refine qm_n (by kernel_rfl) (by kernel_rfl) (by kernel_rfl) (by kernel_rfl) (.c 2 rfl (.c 6 rfl (.c 7 rfl (.c 8 rfl (.c 11 rfl (.c 13 rfl (.c 77 rfl .n))))))) ?_
                refine r_cond _ rfl (fun h12 => ?_) (fun h12 => ?_)
                · simp at h12
                · skip
                  refine r_skip ?_
                  refine r_seq ?_
                  refine r_seq ?_
                  refine r_plan _ [] mo (.c 2 rfl (.c 6 rfl (.c 7 rfl (.c 8 rfl (.c 11 rfl (.c 13 rfl .n)))))) Ent.rfl ?_
                  refine qm_q (i := 0) (l := [.k 13]) rfl rfl rfl rfl (by kernel_rfl) rfl (fun He => PV.rq (pv_mv (.n rfl) rfl rfl (fun _ => rfl))) ?_
                  refine qm_q (i := 1) (l := [.o 0]) rfl rfl rfl rfl (by kernel_rfl) rfl (fun He => PV.rq (pv_lens (Rd.len hq2) ⟨_, Try.underlying90⟩ (.n rfl) rfl rfl rfl rfl (fun _ => rfl))) ?_
                  refine qm_q (i := 2) (l := [.k 11]) rfl rfl rfl rfl (by kernel_rfl) rfl (fun He => PV.rq (pv_mv (.n rfl) rfl rfl (fun _ => rfl))) ?_
                  refine qm_q (i := 3) (l := [.o 2]) rfl rfl rfl rfl (by kernel_rfl) rfl (fun He => PV.rq (pv_lens (Rd.len hq1) ⟨_, Try.underlying90⟩ (.n rfl) rfl rfl rfl rfl (fun _ => rfl))) ?_
                  refine qm_q (i := 4) (l := [.o 1, .o 3]) rfl rfl rfl rfl (by kernel_rfl) rfl (fun He => PV.rq (pv_to (pv_lss (.n rfl) rfl rfl rfl (fun _ => ⟨rfl, rfl⟩)) (show _ = Value.bool false by simp [hlen2]; omega))) ?_
                  refine qm_q (i := 5) (l := [.o 4]) rfl rfl rfl rfl (by kernel_rfl) rfl (fun He => PV.rq (pv_mv (.n rfl) rfl rfl (fun _ => rfl))) ?_
                  refine qm_q (i := 6) (l := [.k 13, .o 5]) rfl rfl rfl rfl (by kernel_rfl) rfl (fun He => PV.rq (pv_mv (.s rfl rfl rfl) rfl rfl (by first | exact fun _ => rfl | exact id | exact fun h => (Bool.and_eq_true_iff.1 h).1 | simp_all))) ?_
                  refine qm_q (i := 7) (l := [.o 6, .o 5]) rfl rfl rfl rfl (by kernel_rfl) rfl (fun He => PV.rq (pv_lens (Rd.len hq2) ⟨_, Try.underlying90⟩ (.s rfl rfl rfl) rfl rfl rfl rfl (by first | exact fun _ => rfl | exact id | exact fun h => (Bool.and_eq_true_iff.1 h).1 | simp_all))) ?_
                  refine qm_q (i := 8) (l := [.k 11, .o 5]) rfl rfl rfl rfl (by kernel_rfl) rfl (fun He => PV.rq (pv_mv (.s rfl rfl rfl) rfl rfl (by first | exact fun _ => rfl | exact id | exact fun h => (Bool.and_eq_true_iff.1 h).1 | simp_all))) ?_
                  refine qm_q (i := 9) (l := [.o 8, .o 5]) rfl rfl rfl rfl (by kernel_rfl) rfl (fun He => PV.rq (pv_lens (Rd.len hq1) ⟨_, Try.underlying90⟩ (.s rfl rfl rfl) rfl rfl rfl rfl (by first | exact fun _ => rfl | exact id | exact fun h => (Bool.and_eq_true_iff.1 h).1 | simp_all))) ?_
                  refine qm_q (i := 10) (l := [.o 9, .o 5]) rfl rfl rfl rfl (by kernel_rfl) rfl (fun He => PV.rq (pv_add (by intro hg; simp at hg; omega) (.s rfl rfl rfl) rfl rfl rfl (by refine fun h => ⟨?_, ?_⟩ <;> first | rfl | exact h | exact (Bool.and_eq_true_iff.1 h).1 | simp_all))) ?_
                  refine qm_q (i := 11) (l := [.o 7, .o 10, .o 5]) rfl rfl rfl rfl (by kernel_rfl) rfl (fun He => PV.rq (pv_to (pv_gtr (.s rfl rfl rfl) rfl rfl rfl (by refine fun h => ⟨?_, ?_⟩ <;> first | rfl | exact h | exact (Bool.and_eq_true_iff.1 h).1 | simp_all)) (show _ = Value.bool false by simp [hlen2]))) ?_
                  refine qm_q (i := 12) (l := [.o 5, .o 11]) rfl rfl rfl rfl (by kernel_rfl) rfl (fun He => PV.rq (pv_or (.n rfl) rfl rfl rfl (fun _ => ⟨rfl, fun hc => by first | rfl | (rw [hc]; rfl) | simp_all⟩))) ?_
                  refine qm_q (i := 13) (l := [.o 12]) rfl rfl rfl rfl (by kernel_rfl) rfl (fun He => PV.rq (pv_mv (.n rfl) rfl rfl (fun _ => rfl))) ?_
                  refine qm_q (i := 14) (l := [.k 13, .o 13]) rfl rfl rfl rfl (by kernel_rfl) rfl (fun He => PV.rq (pv_mv (.s rfl rfl rfl) rfl rfl (by first | exact fun _ => rfl | exact id | exact fun h => (Bool.and_eq_true_iff.1 h).1 | simp_all))) ?_
                  refine qm_q (i := 15) (l := [.k 11, .o 13]) rfl rfl rfl rfl (by kernel_rfl) rfl (fun He => PV.rq (pv_mv (.s rfl rfl rfl) rfl rfl (by first | exact fun _ => rfl | exact id | exact fun h => (Bool.and_eq_true_iff.1 h).1 | simp_all))) ?_
                  refine qm_q (i := 16) (l := [.o 15, .o 13]) rfl rfl rfl rfl (by kernel_rfl) rfl (fun He => PV.rq (pv_lens (Rd.len hq1) ⟨_, Try.underlying90⟩ (.s rfl rfl rfl) rfl rfl rfl rfl (by first | exact fun _ => rfl | exact id | exact fun h => (Bool.and_eq_true_iff.1 h).1 | simp_all))) ?_
                  refine qm_q (i := 17) (l := [.o 14, .o 16, .o 13]) rfl rfl rfl rfl (by kernel_rfl) rfl (fun He => PV.rq (pv_slcg (l := 0) (h := k.l.length) Try.underlying90 (.ofA ta_103) hq2 (Nat.zero_le _) (by rw [List.length_map]; first | omega | (rw [hl0]; omega)) (.s rfl rfl rfl) rfl rfl (.inl ⟨rfl, rfl, rfl⟩) (.inr ⟨_, _, rfl, rfl, rfl⟩))) ?_
                  refine qm_q (i := 18) (l := [.k 11, .o 13]) rfl rfl rfl rfl (by kernel_rfl) rfl (fun He => PV.rq (pv_mv (.s rfl rfl rfl) rfl rfl (by first | exact fun _ => rfl | exact id | exact fun h => (Bool.and_eq_true_iff.1 h).1 | simp_all))) ?_
                  refine qm_q (i := 19) (l := [.o 17, .o 18, .o 13]) rfl rfl rfl rfl (by kernel_rfl) rfl (fun He => rq_call cf_56 (.s rfl rfl rfl) rfl (.c rfl (by first | exact fun _ => rfl | exact id | exact fun h => (Bool.and_eq_true_iff.1 h).1 | simp_all) (.c rfl (by first | exact fun _ => rfl | exact id | exact fun h => (Bool.and_eq_true_iff.1 h).1 | simp_all) .n)) (fun hg => fnv_tru (ref_SameRecords _ _ _ _ k.l k.l ((hq2.own.resl (Nat.zero_le _) (show k.l.length ≤ (k2.l.map rR).length by rw [List.length_map]; first | omega | (rw [hl0]; omega))).to (by rw [List.drop_zero, ← List.map_take, htk])) hq1.own (by omega)))) ?_
                  refine qm_q (i := 20) (l := [.o 19, .o 13]) rfl rfl rfl rfl (by kernel_rfl) rfl (fun He => PV.rq (pv_not (.s rfl rfl rfl) rfl rfl (by first | exact fun _ => rfl | exact id | exact fun h => (Bool.and_eq_true_iff.1 h).1 | simp_all))) ?_
                  refine qm_q (i := 21) (l := [.o 13, .o 20]) rfl rfl rfl rfl (by kernel_rfl) rfl (fun He => PV.rq (pv_or (.n rfl) rfl rfl rfl (fun _ => ⟨rfl, fun hc => by first | rfl | (rw [hc]; rfl) | simp_all⟩))) ?_
                  refine qm_q (i := 22) (l := [.o 21]) rfl rfl rfl rfl (by kernel_rfl) rfl (fun He => PV.rq (pv_mv (.n rfl) rfl rfl (fun _ => rfl))) ?_
                  refine qm_q (i := 23) (l := [.k 13, .o 22]) rfl rfl rfl rfl (by kernel_rfl) rfl (fun He => PV.rq (pv_mv (.s rfl rfl rfl) rfl rfl (by first | exact fun _ => rfl | exact id | exact fun h => (Bool.and_eq_true_iff.1 h).1 | simp_all))) ?_
                  refine qm_q (i := 24) (l := [.o 23, .o 22]) rfl rfl rfl rfl (by kernel_rfl) rfl (fun He => PV.rq (pv_lens (Rd.len hq2) ⟨_, Try.underlying90⟩ (.s rfl rfl rfl) rfl rfl rfl rfl (by first | exact fun _ => rfl | exact id | exact fun h => (Bool.and_eq_true_iff.1 h).1 | simp_all))) ?_
                  refine qm_q (i := 25) (l := [.k 11, .o 22]) rfl rfl rfl rfl (by kernel_rfl) rfl (fun He => PV.rq (pv_mv (.s rfl rfl rfl) rfl rfl (by first | exact fun _ => rfl | exact id | exact fun h => (Bool.and_eq_true_iff.1 h).1 | simp_all))) ?_
                  refine qm_q (i := 26) (l := [.o 25, .o 22]) rfl rfl rfl rfl (by kernel_rfl) rfl (fun He => PV.rq (pv_lens (Rd.len hq1) ⟨_, Try.underlying90⟩ (.s rfl rfl rfl) rfl rfl rfl rfl (by first | exact fun _ => rfl | exact id | exact fun h => (Bool.and_eq_true_iff.1 h).1 | simp_all))) ?_
                  refine qm_q (i := 27) (l := [.o 24, .o 26, .o 22]) rfl rfl rfl rfl (by kernel_rfl) rfl (fun He => PV.rq (pv_to (pv_gtr (.s rfl rfl rfl) rfl rfl rfl (by refine fun h => ⟨?_, ?_⟩ <;> first | rfl | exact h | exact (Bool.and_eq_true_iff.1 h).1 | simp_all)) (show _ = Value.bool true by simp [hlen2]; omega))) ?_
                  refine qm_q (i := 28) (l := [.o 27, .o 22]) rfl rfl rfl rfl (by kernel_rfl) rfl (fun He => PV.rq (pv_mv (.s rfl rfl rfl) rfl rfl (by first | exact fun _ => rfl | exact id | exact fun h => (Bool.and_eq_true_iff.1 h).1 | simp_all))) ?_
                  refine qm_q (i := 29) (l := [.k 13, .o 28]) rfl rfl rfl rfl (by kernel_rfl) rfl (fun He => PV.rq (pv_mv (.s rfl rfl rfl) rfl rfl (by first | exact fun _ => rfl | exact id | exact fun h => (Bool.and_eq_true_iff.1 h).1 | simp_all))) ?_
                  refine qm_q (i := 30) (l := [.k 11, .o 28]) rfl rfl rfl rfl (by kernel_rfl) rfl (fun He => PV.rq (pv_mv (.s rfl rfl rfl) rfl rfl (by first | exact fun _ => rfl | exact id | exact fun h => (Bool.and_eq_true_iff.1 h).1 | simp_all))) ?_
                  refine qm_q (i := 31) (l := [.o 30, .o 28]) rfl rfl rfl rfl (by kernel_rfl) rfl (fun He => PV.rq (pv_lens (Rd.len hq1) ⟨_, Try.underlying90⟩ (.s rfl rfl rfl) rfl rfl rfl rfl (by first | exact fun _ => rfl | exact id | exact fun h => (Bool.and_eq_true_iff.1 h).1 | simp_all))) ?_
                  refine qm_q (i := 32) (l := [.o 29, .o 31, .o 28]) rfl rfl rfl rfl (by kernel_rfl) rfl (fun He => PV.rq (pv_idx Try.underlying90 (.ofA ta_103) hq2 (fun hg => ⟨(by simp [hl2]), (mapget hlast)⟩) (.s rfl rfl rfl) rfl rfl rfl (by refine fun h => ⟨?_, ?_⟩ <;> first | rfl | exact h | exact (Bool.and_eq_true_iff.1 h).1 | simp_all))) ?_
                  refine qm_q (i := 33) (l := [.o 32, .o 28]) rfl rfl rfl rfl (by kernel_rfl) rfl (fun He => RV.rq (rv_ldats (j := 0) ta_103 (Rd.ent hq2 (by repeat (first | exact Ent.rfl | exact Ent.one Ent.h | exact Ent.one (SelS.ent) | exact Ent.nil | exact Ent.left | refine Ent.dropR ?_ | refine Ent.tr Ent.skip ?_))) (fun hg => (mapget hlast)) (.s rfl rfl rfl) rfl rfl (by first | exact fun _ => rfl | exact id | exact fun h => (Bool.and_eq_true_iff.1 h).1 | simp_all) rfl (.s (.s (.s (.s (.s .z))))))) ?_
                  refine qm_q (i := 34) (l := [.k 2, .o 28]) rfl rfl rfl rfl (by kernel_rfl) rfl (fun He => PV.rq (pv_mv (.s rfl rfl rfl) rfl rfl (by first | exact fun _ => rfl | exact id | exact fun h => (Bool.and_eq_true_iff.1 h).1 | simp_all))) ?_
                  refine qm_q (i := 35) (l := [.k 8, .o 28]) rfl rfl rfl rfl (by kernel_rfl) rfl (fun He => PV.rq (pv_mv (.s rfl rfl rfl) rfl rfl (by first | exact fun _ => rfl | exact id | exact fun h => (Bool.and_eq_true_iff.1 h).1 | simp_all))) ?_
                  refine qm_q (i := 36) (l := [.o 34, .o 35, .o 28]) rfl rfl rfl rfl (by kernel_rfl) rfl (fun He => PV.rq (pv_idx Try.underlying90 (.ofA ta_103) hu (fun hg => ⟨rfl, (mapget hr)⟩) (.s rfl rfl rfl) rfl rfl rfl (by refine fun h => ⟨?_, ?_⟩ <;> first | rfl | exact h | exact (Bool.and_eq_true_iff.1 h).1 | simp_all))) ?_
                  refine qm_q (i := 37) (l := [.o 36, .o 28]) rfl rfl rfl rfl (by kernel_rfl) rfl (fun He => RV.rq (rv_ldats (j := 0) ta_103 (Rd.ent hu (by repeat (first | exact Ent.rfl | exact Ent.one Ent.h | exact Ent.one (SelS.ent) | exact Ent.nil | exact Ent.left | refine Ent.dropR ?_ | refine Ent.tr Ent.skip ?_))) (fun hg => (mapget hr)) (.s rfl rfl rfl) rfl rfl (by first | exact fun _ => rfl | exact id | exact fun h => (Bool.and_eq_true_iff.1 h).1 | simp_all) rfl (.s (.s (.s (.s (.s .z))))))) ?_
                  refine qm_q (i := 38) (l := [.o 33, .o 37, .o 28]) rfl rfl rfl rfl (by kernel_rfl) rfl (fun He => PV.rq (pv_ane (eq_Record) (.s rfl rfl rfl) rfl rfl rfl (by refine fun h => ⟨?_, ?_⟩ <;> first | rfl | exact h | exact (Bool.and_eq_true_iff.1 h).1 | simp_all))) ?_
                  refine qm_q (i := 39) (l := [.o 28, .o 38, .o 22]) rfl rfl rfl rfl (by kernel_rfl) rfl (fun He => PV.rq (pv_and (.s rfl rfl rfl) rfl rfl rfl (by intro hg; refine ⟨?_, fun hc => ?_⟩ <;> first | rfl | (rw [hc]; rfl) | simp_all))) ?_
                  refine qm_q (i := 40) (l := [.o 22, .o 39]) rfl rfl rfl rfl (by kernel_rfl) rfl (fun He => PV.rq (pv_or (.n rfl) rfl rfl rfl (fun _ => ⟨rfl, fun hc => by first | rfl | (rw [hc]; rfl) | simp_all⟩))) ?_
                  refine qm_n (by kernel_rfl) (by kernel_rfl) (by kernel_rfl) (by kernel_rfl) (.c 2 rfl (.c 6 rfl (.c 7 rfl (.c 8 rfl (.c 11 rfl (.c 13 rfl (.c 118 rfl .n))))))) ?_
                  refine r_cond _ rfl (fun h13 => ?_) (fun h13 => ?_)
                  · exfalso; simp [hl2] at h13
                  · skip
                    refine r_skip ?_
                    refine r_seq ?_
                    refine r_region ?_
                    refine p_as rfl rfl ?_
                    refine o_keep (.c 2 rfl (.c 6 rfl (.c 7 rfl (.c 8 rfl (.c 11 rfl (.c 13 rfl (.c 14 rfl .n))))))) ?_
                    refine r_block ?_
                    refine r_loop_1 (fun (j : Nat) => [(14, true, .int .i64 (j : Int))]) (.c 2 rfl (.c 6 rfl (.c 7 rfl (.c 8 rfl (.c 11 rfl (.c 13 rfl .n)))))) (fun (j : Nat) => sl rv2 103 5 (k2.l.map rR) :: sl rv1 103 5 (k.l.map rR) :: blk b9 (cntL k.shop.c0 ++ cntL k.shop.c1) 52 :: sl hv1 67 3 (k.shop.holds.map rH) :: blk b7 (kpC k2 sb lv) 105 :: sl lv 103 5 (k2.l.map rR) :: shopP sb k2.shop :: blk b4 (ws.map vI) 42 :: H) (fun (j : Nat) => True) (fun (j : Nat) => k.l.length - j) (0) ?_ (.c 14 rfl .n) ?_ (fun j hI => ?_)
                    · trivial
                    · first | exact Ent.rfl | (repeat (first | exact Ent.rfl | refine Ent.c (SelB.ent) ?_ | refine Ent.c (SelS.ent) ?_ | refine Ent.cN ?_ | refine Ent.c (SelX.ent) ?_ | refine Ent.dropR ?_))
                    · skip
                      refine r_seq ?_
                      refine r_seq ?_
                      refine r_region ?_
                      refine p_mv rfl rfl ?_
                      refine p_mv rfl rfl ?_
                      refine l_op (x_p (pv_lens (Rd.len hq1) ⟨_, Try.underlying90⟩ (.n rfl) rfl rfl rfl rfl (fun _ => rfl)) rfl rfl ?_)
                      refine p_lss rfl rfl rfl ?_
                      refine p_mv rfl rfl ?_
                      refine l_op (x_p (pv_mv (.s rfl rfl rfl) rfl rfl (by first | exact fun _ => rfl | exact id | exact fun h => (Bool.and_eq_true_iff.1 h).1 | simp_all)) rfl rfl ?_)
                      refine l_op (x_p (pv_lens (Rd.len hq2) ⟨_, Try.underlying90⟩ (.s rfl rfl rfl) rfl rfl rfl rfl (by first | exact fun _ => rfl | exact id | exact fun h => (Bool.and_eq_true_iff.1 h).1 | simp_all)) rfl rfl ?_)
                      refine l_op (x_p (pv_mv (.s rfl rfl rfl) rfl rfl (by first | exact fun _ => rfl | exact id | exact fun h => (Bool.and_eq_true_iff.1 h).1 | simp_all)) rfl rfl ?_)
                      refine l_op (x_p (pv_lens (Rd.len hq1) ⟨_, Try.underlying90⟩ (.s rfl rfl rfl) rfl rfl rfl rfl (by first | exact fun _ => rfl | exact id | exact fun h => (Bool.and_eq_true_iff.1 h).1 | simp_all)) rfl rfl ?_)
                      refine l_op (x_p (pv_gtr (.s rfl rfl rfl) rfl rfl rfl (by refine fun h => ⟨?_, ?_⟩ <;> first | rfl | exact h | exact (Bool.and_eq_true_iff.1 h).1 | simp_all)) rfl rfl ?_)
                      refine l_op (x_p (pv_and (.n rfl) rfl rfl rfl (fun _ => ⟨rfl, fun hc => by first | rfl | (rw [hc]; rfl) | simp_all⟩)) rfl rfl ?_)
                      refine o_keep (.c 2 rfl (.c 6 rfl (.c 7 rfl (.c 8 rfl (.c 11 rfl (.c 13 rfl (.c 14 rfl (.c 129 rfl .n)))))))) ?_
                      refine r_cond _ rfl (fun h14 => ?_) (fun h14 => ?_)
                      · skip
                        obtain ⟨y, hy⟩ := getlt (l := k.l) (i := j) (by simp at h14; omega)
                        have hil3 := (List.getElem?_eq_some_iff.1 hy).1
                        refine r_skip ?_
                        refine r_seq ?_
                        refine r_block ?_
                        refine r_seq ?_
                        refine r_plan _ [] mo (.c 2 rfl (.c 6 rfl (.c 7 rfl (.c 8 rfl (.c 11 rfl (.c 13 rfl (.c 14 rfl .n))))))) Ent.rfl ?_
                        refine qm_q (i := 0) (l := [.k 11]) rfl rfl rfl rfl (by kernel_rfl) rfl (fun He => PV.rq (pv_mv (.n rfl) rfl rfl (fun _ => rfl))) ?_
                        refine qm_q (i := 1) (l := [.k 14]) rfl rfl rfl rfl (by kernel_rfl) rfl (fun He => PV.rq (pv_mv (.n rfl) rfl rfl (fun _ => rfl))) ?_
                        refine qm_q (i := 2) (l := [.o 0, .o 1]) rfl rfl rfl rfl (by kernel_rfl) rfl (fun He => PV.rq (pv_idx Try.underlying90 (.ofA ta_103) hq1 (fun hg => ⟨rfl, (mapget hy)⟩) (.n rfl) rfl rfl rfl (fun _ => ⟨rfl, rfl⟩))) ?_
                        refine qm_q (i := 3) (l := [.o 2]) rfl rfl rfl rfl (by kernel_rfl) rfl (fun He => RV.rq (rv_ldats (j := 0) ta_103 (Rd.ent hq1 (by repeat (first | exact Ent.rfl | exact Ent.one Ent.h | exact Ent.one (SelS.ent) | exact Ent.nil | exact Ent.left | refine Ent.dropR ?_ | refine Ent.tr Ent.skip ?_))) (fun hg => (mapget hy)) (.n rfl) rfl rfl (fun _ => rfl) rfl (.s (.s (.s (.s (.s .z))))))) ?_
                        refine qm_q (i := 4) (l := [.k 2]) rfl rfl rfl rfl (by kernel_rfl) rfl (fun He => PV.rq (pv_mv (.n rfl) rfl rfl (fun _ => rfl))) ?_
                        refine qm_q (i := 5) (l := [.k 8]) rfl rfl rfl rfl (by kernel_rfl) rfl (fun He => PV.rq (pv_mv (.n rfl) rfl rfl (fun _ => rfl))) ?_
                        refine qm_q (i := 6) (l := [.o 4, .o 5]) rfl rfl rfl rfl (by kernel_rfl) rfl (fun He => PV.rq (pv_idx Try.underlying90 (.ofA ta_103) hu (fun hg => ⟨rfl, (mapget hr)⟩) (.n rfl) rfl rfl rfl (fun _ => ⟨rfl, rfl⟩))) ?_
                        refine qm_q (i := 7) (l := [.o 6]) rfl rfl rfl rfl (by kernel_rfl) rfl (fun He => RV.rq (rv_ldats (j := 0) ta_103 (Rd.ent hu (by repeat (first | exact Ent.rfl | exact Ent.one Ent.h | exact Ent.one (SelS.ent) | exact Ent.nil | exact Ent.left | refine Ent.dropR ?_ | refine Ent.tr Ent.skip ?_))) (fun hg => (mapget hr)) (.n rfl) rfl rfl (fun _ => rfl) rfl (.s (.s (.s (.s (.s .z))))))) ?_
                        refine qm_q (i := 8) (l := [.o 3, .o 7]) rfl rfl rfl rfl (by kernel_rfl) rfl (fun He => PV.rq (pv_aeq (eq_Record) (.n rfl) rfl rfl rfl (fun _ => ⟨rfl, rfl⟩))) ?_
                        refine qm_n (by kernel_rfl) (by kernel_rfl) (by kernel_rfl) (by kernel_rfl) (.c 2 rfl (.c 6 rfl (.c 7 rfl (.c 8 rfl (.c 11 rfl (.c 13 rfl (.c 14 rfl (.c 140 rfl .n)))))))) ?_
                        refine r_cond _ rfl (fun h15 => ?_) (fun h15 => ?_)
                        · exfalso; have he : y = r := of_decide_eq_true h15; exact hm (he ▸ List.mem_of_getElem? hy)
                        · skip
                          refine r_skip ?_
                          refine r_end ?_
                          refine r_region ?_
                          refine p_mv rfl rfl ?_
                          refine p_add rfl rfl (by omega) rfl ?_
                          refine p_as rfl rfl ?_
                          refine o_keep (.c 2 rfl (.c 6 rfl (.c 7 rfl (.c 8 rfl (.c 11 rfl (.c 13 rfl (.c 14 rfl .n))))))) ?_
                          refine r_back_1 (j + 1) ?_ ?_ (Keep.app (.c 14 rfl .n) (.c 2 rfl (.c 6 rfl (.c 7 rfl (.c 8 rfl (.c 11 rfl (.c 13 rfl .n))))))) ?_
                          · trivial
                          · omega
                          · first | exact Ent.rfl | (repeat (first | exact Ent.rfl | refine Ent.c (SelB.ent) ?_ | refine Ent.c (SelS.ent) ?_ | refine Ent.cN ?_ | refine Ent.c (SelX.ent) ?_ | refine Ent.dropR ?_))
                      · skip
                        refine r_exit rfl ?_
                        refine r_end ?_
                        refine r_region ?_
                        refine p_mv rfl rfl ?_
                        refine p_add rfl rfl (by omega) rfl ?_
                        refine p_as rfl rfl ?_
                        refine o_keep (.c 2 rfl (.c 6 rfl (.c 7 rfl (.c 8 rfl .n)))) ?_
                        refine r_back_2 (i + 1) (k2) ?_ ?_ (Keep.app (.c 8 rfl .n) (.c 2 rfl (.c 6 rfl (.c 7 rfl .n)))) ?_
                        · exact ⟨by omega, hK2⟩
                        · omega
                        · refine Ent.c (keepP_close sb lv rfl rfl) ?_; first | exact Ent.rfl | (repeat (first | exact Ent.rfl | refine Ent.c (SelB.ent) ?_ | refine Ent.c (SelS.ent) ?_ | refine Ent.cN ?_ | refine Ent.c (SelX.ent) ?_ | refine Ent.dropR ?_))
            · skip
              refine r_exit rfl ?_
              refine r_seq ?_
              refine r_region ?_
              refine p_as rfl rfl ?_
              refine o_keep (.c 6 rfl .n) ?_
              refine r_retv hF rfl (.c (.t rfl) .n) ?_ ?_
              · first | exact Ent.rfl | (repeat (first | exact Ent.rfl | refine Ent.c (SelB.ent) ?_ | refine Ent.c (SelS.ent) ?_ | refine Ent.cN ?_ | refine Ent.c (SelX.ent) ?_ | refine Ent.dropR ?_))
              · first | rfl | exact bool_eq (by simp)

end Go.Proofs.Ytmakdilmibjpbab
