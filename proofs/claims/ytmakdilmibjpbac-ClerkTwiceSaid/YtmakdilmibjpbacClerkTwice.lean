/- The walks of ClerkTwice: written by a program of ours (gen.py) over the engine. -/
import Derived.Test.YtmakdilmibjpbacPlain
import Derived.Test.YtmakdilmibjpbacFacts
import Derived.Test.YtmakdilmibjpbacClerkLaws
namespace Go.Proofs.Ytmakdilmibjpbac
open Go Go.RowKit
set_option linter.unusedVariables false
set_option linter.unusedSimpArgs false
set_option maxRecDepth 20000

theorem law_ClerkTwice (M : Amb) (H : List HP) (no : Int) (ws : List Int) (hws : ws.length = 6) (uv : Value) (ls : List Mail) (hu : Rd M [] uv 6 (ls.map rM)) : FnV Try.prog M H 3 [.int .i64 no, .agg (ws.map vI).toArray, uv] (.bool true) := by
  refine fn_intro Try.func3 rfl Try.ntmps3 rfl fun F hF => ?_
  refine r_seq ?_
  refine r_region ?_
  refine p_box rfl rfl rfl fun b4 => ?_
  refine p_as rfl rfl ?_
  refine o_keep (.c 0 rfl (.c 2 rfl (.c 4 rfl (.c 6 rfl .n)))) ?_
  refine r_seq ?_
  refine r_seq ?_
  refine r_region ?_
  refine p_callv cf_14 (.n) rfl (law_clerkBegun _ _) ?_
  refine p_not rfl rfl ?_
  refine o_keep (.c 0 rfl (.c 2 rfl (.c 4 rfl (.c 6 rfl (.c 17 rfl .n))))) ?_
  refine r_cond _ rfl (fun h1 => ?_) (fun h1 => ?_)
  · simp at h1
  · skip
    refine r_skip ?_
    refine r_seq ?_
    refine r_seq ?_
    refine r_region ?_
    refine p_mv rfl rfl ?_
    refine l_op (x_p (pv_lens hu.len ⟨_, Try.underlying24⟩ (.n rfl) rfl rfl rfl rfl (fun _ => rfl)) rfl rfl ?_)
    refine p_gtr rfl rfl rfl ?_
    refine o_keep (.c 0 rfl (.c 2 rfl (.c 4 rfl (.c 6 rfl (.c 20 rfl .n))))) ?_
    refine r_cond _ rfl (fun h2 => ?_) (fun h2 => ?_)
    · skip
      refine r_seq ?_
      refine r_region ?_
      refine p_as rfl rfl ?_
      refine o_keep (.c 0 rfl (.c 2 rfl (.c 4 rfl (.c 6 rfl .n)))) ?_
      refine r_retv hF rfl (.c (.t rfl) .n) ?_ ?_
      · first | exact Ent.rfl | (repeat (first | exact Ent.rfl | refine Ent.c (SelB.ent) ?_ | refine Ent.c (SelS.ent) ?_ | refine Ent.cN ?_ | refine Ent.c (SelX.ent) ?_ | refine Ent.dropR ?_))
      · first | rfl | exact bool_eq (by simp)
    · skip
      have hL := of_decide_eq_false h2
      refine r_skip ?_
      refine r_seq ?_
      rcases hn : newS no ws with _ | s0
      · skip
        refine r_region ?_
        refine p_mv rfl rfl ?_
        refine p_lda ta_23 rfl (by exact (Tk.all (by first | rfl | assumption | (simp only [List.drop_zero, List.length_map]; assumption) | (simp [*]; done)))) rfl ?_
        refine p_callc cf_15 (.c rfl (.c rfl .n)) rfl (clerk_New_none _ no ws hws hn) ?_
        refine p_as rfl rfl ?_
        refine o_keep (.c 0 rfl (.c 2 rfl (.c 6 rfl (.c 7 rfl .n)))) ?_
        refine r_seq ?_
        refine r_seq ?_
        refine r_region ?_
        refine p_mv rfl rfl ?_
        refine l_op (x_p (pv_peqn Try.underlying26 (.n rfl) rfl rfl rfl (fun _ => ⟨rfl, rfl⟩)) rfl rfl ?_)
        refine o_keep (.c 0 rfl (.c 2 rfl (.c 6 rfl (.c 7 rfl (.c 25 rfl .n))))) ?_
        refine r_cond _ rfl (fun h3 => ?_) (fun h3 => ?_)
        · skip
          refine r_seq ?_
          refine r_region ?_
          refine p_as rfl rfl ?_
          refine o_keep (.c 0 rfl (.c 2 rfl (.c 6 rfl (.c 7 rfl .n)))) ?_
          refine r_retv hF rfl (.c (.t rfl) .n) ?_ ?_
          · first | exact Ent.rfl | (repeat (first | exact Ent.rfl | refine Ent.c (SelB.ent) ?_ | refine Ent.c (SelS.ent) ?_ | refine Ent.cN ?_ | refine Ent.c (SelX.ent) ?_ | refine Ent.dropR ?_))
          · first | rfl | exact bool_eq (by simp)
        · simp at h3
      · skip
        refine r_region ?_
        refine p_mv rfl rfl ?_
        refine p_lda ta_23 rfl (by exact (Tk.all (by first | rfl | assumption | (simp only [List.drop_zero, List.length_map]; assumption) | (simp [*]; done)))) rfl ?_
        refine p_calle cf_15 (.c rfl (.c rfl .n)) rfl (clerk_New_some _ no ws hws hn) fun b23 => ?_
        refine o_cat ?_
        refine p_as rfl rfl ?_
        refine o_keep (.c 0 rfl (.c 2 rfl (.c 6 rfl (.c 7 rfl .n)))) ?_
        refine r_seq ?_
        refine r_seq ?_
        refine r_region ?_
        refine p_mv rfl rfl ?_
        refine l_op (x_p (pv_peqn Try.underlying26 (.n rfl) rfl rfl rfl (fun _ => ⟨rfl, rfl⟩)) rfl rfl ?_)
        refine o_keep (.c 0 rfl (.c 2 rfl (.c 6 rfl (.c 7 rfl (.c 25 rfl .n))))) ?_
        refine r_cond _ rfl (fun h4 => ?_) (fun h4 => ?_)
        · simp at h4
        · skip
          refine r_skip ?_
          refine r_seq ?_
          refine r_seq ?_
          refine r_region ?_
          refine p_as rfl rfl ?_
          refine o_keep (.c 0 rfl (.c 2 rfl (.c 6 rfl (.c 7 rfl (.c 8 rfl .n))))) ?_
          refine r_block ?_
          refine r_loop_2 (fun (i : Nat) (k : KeepS) => [(8, true, .int .i64 (i : Int))]) (.c 0 rfl (.c 2 rfl (.c 6 rfl (.c 7 rfl .n)))) (fun (i : Nat) (k : KeepS) => clerkP b23 k :: blk b4 (ws.map vI) 23 :: H) (fun (i : Nat) (k : KeepS) => i ≤ ls.length ∧ KInv k ∧ k.no = no) (fun (i : Nat) (k : KeepS) => ls.length - i) (0) (⟨no, ws, s0, []⟩) ?_ (.c 8 rfl .n) ?_ (fun i k hI => ?_)
          · exact ⟨Nat.zero_le _, (KInv.new (no := no) (ws := ws) (k := ⟨no, ws, s0, []⟩) (by unfold newK; rw [hn]; rfl)).1, rfl⟩
          · first | exact Ent.rfl | (repeat (first | exact Ent.rfl | refine Ent.c (SelB.ent) ?_ | refine Ent.c (SelS.ent) ?_ | refine Ent.cN ?_ | refine Ent.c (SelX.ent) ?_ | refine Ent.dropR ?_))
          · skip
            obtain ⟨hil, hK, hkn⟩ := hI
            refine r_seq ?_
            refine r_seq ?_
            refine r_region ?_
            refine p_mv rfl rfl ?_
            refine p_mv rfl rfl ?_
            refine l_op (x_p (pv_lens hu.len ⟨_, Try.underlying24⟩ (.n rfl) rfl rfl rfl rfl (fun _ => rfl)) rfl rfl ?_)
            refine p_lss rfl rfl rfl ?_
            refine o_keep (.c 0 rfl (.c 2 rfl (.c 6 rfl (.c 7 rfl (.c 8 rfl (.c 29 rfl .n)))))) ?_
            refine r_cond _ rfl (fun h5 => ?_) (fun h5 => ?_)
            · skip
              obtain ⟨m, hm⟩ := getlt (l := ls) (i := i) (by have := of_decide_eq_true h5; omega)
              have hil2 := (List.getElem?_eq_some_iff.1 hm).1
              refine r_skip ?_
              refine r_seq ?_
              refine r_block ?_
              refine r_seq ?_
              refine r_region ?_
              refine p_mv rfl rfl ?_
              refine p_mv rfl rfl ?_
              refine p_mv rfl rfl ?_
              refine p_idx Try.underlying24 (.ofA ta_31) hu rfl (mapget hm) rfl rfl rfl ?_
              refine p_ldats 0 ta_31 (Rd.ent hu (by repeat (first | exact Ent.rfl | exact Ent.one Ent.h | exact Ent.one (SelS.ent) | exact Ent.nil | exact Ent.left | refine Ent.dropR ?_ | refine Ent.tr Ent.skip ?_))) (mapget hm) rfl rfl (.s (.s (.s (.s (.s (.s .z)))))) rfl ?_
              refine p_callc cf_16 (.c rfl (.c rfl .n)) rfl (clerk_Answer _ b23 k hK m) ?_
              refine p_mv rfl rfl ?_
              refine p_ext rfl rfl rfl ?_
              refine p_ext rfl rfl rfl ?_
              refine p_alloc zr_31 rfl fun b9 => ?_
              refine p_store (.ofA ta_31) rfl rfl rfl (by first | rfl | exact rfl) (by first | rfl | exact (by first | rfl | simp [vI, Value.oneCell'])) (Ins.whole (by first | rfl | (simp only [List.length_map, List.length_cons, List.length_nil]; omega) | (simp [*]; done) | (simp [*]; rfl))) ?_
              refine p_as rfl rfl ?_
              refine o_keep (.c 0 rfl (.c 2 rfl (.c 6 rfl (.c 7 rfl (.c 8 rfl (.c 9 rfl (.c 10 rfl .n))))))) ?_
              refine r_seq ?_
              have hK1 := hK.ans m
              have hkn1 := ansK_no k m
              have hag := ansK_again hK m
              generalize hoe : (ansK k m).2 = o at hag ⊢
              generalize (ansK k m).1 = k1 at hK1 hkn1 hag ⊢
              have hh1 := hK1.sh.holds_le
              have hh2 := hK1.sh.over_le
              have hh3 := hK1.l_le
              refine r_sel (clerkP b23 k1) ?_
              refine r_ex fun kb => ?_
              refine r_cat ?_
              refine r_sel (keepP kb k1) ?_
              refine r_ex2 fun sb lv => ?_
              refine r_cat ?_
              refine r_rd lv fun hrl => ?_
              refine r_plan _ [] mo (.c 0 rfl (.c 2 rfl (.c 6 rfl (.c 7 rfl (.c 8 rfl (.c 9 rfl (.c 10 rfl .n))))))) Ent.rfl ?_
              refine qm_q (i := 0) (l := [.k 7]) rfl rfl rfl rfl (by kernel_rfl) rfl (fun He => PV.rq (pv_mv (.n rfl) rfl rfl (fun _ => rfl))) ?_
              refine qm_q (i := 1) (l := [.o 0]) rfl rfl rfl rfl (by kernel_rfl) rfl (fun He => PV.rq (pv_nilp (.n rfl) rfl rfl (fun _ => rfl))) ?_
              refine qm_q (i := 2) (l := [.o 1]) rfl rfl rfl rfl (by kernel_rfl) rfl (fun He => PV.rq (pv_fa fa_40_0 (.n rfl) rfl rfl (fun _ => rfl))) ?_
              refine qm_q (i := 3) (l := [.o 2]) rfl rfl rfl rfl (by kernel_rfl) rfl (fun He => RV.rq (q_ldc tc_38 (.n rfl) rfl rfl (fun _ => rfl) (by rfl))) ?_
              refine qm_q (i := 4) (l := [.o 3]) rfl rfl rfl rfl (by kernel_rfl) rfl (fun He => PV.rq (pv_nilp (.n rfl) rfl rfl (fun _ => rfl))) ?_
              refine qm_q (i := 5) (l := [.o 4]) rfl rfl rfl rfl (by kernel_rfl) rfl (fun He => PV.rq (pv_fa fa_44_0 (.n rfl) rfl rfl (fun _ => rfl))) ?_
              refine qm_q (i := 6) (l := [.o 5]) rfl rfl rfl rfl (by kernel_rfl) rfl (fun He => RV.rq (q_ldc tc_41 (.n rfl) rfl rfl (fun _ => rfl) (by rfl))) ?_
              refine qm_q (i := 7) (l := [.o 6]) rfl rfl rfl rfl (by kernel_rfl) rfl (fun He => rq_call cf_17 (.n rfl) rfl (.c rfl (fun _ => rfl) .n) (fun hg => (shop_Counts _ sb k1.shop).q)) ?_
              refine qm_q (i := 8) (l := [.k 7]) rfl rfl rfl rfl (by kernel_rfl) rfl (fun He => PV.rq (pv_mv (.n rfl) rfl rfl (fun _ => rfl))) ?_
              refine qm_q (i := 9) (l := [.o 8]) rfl rfl rfl rfl (by kernel_rfl) rfl (fun He => PV.rq (pv_nilp (.n rfl) rfl rfl (fun _ => rfl))) ?_
              refine qm_q (i := 10) (l := [.o 9]) rfl rfl rfl rfl (by kernel_rfl) rfl (fun He => PV.rq (pv_fa fa_40_0 (.n rfl) rfl rfl (fun _ => rfl))) ?_
              refine qm_q (i := 11) (l := [.o 10]) rfl rfl rfl rfl (by kernel_rfl) rfl (fun He => RV.rq (q_ldc tc_38 (.n rfl) rfl rfl (fun _ => rfl) (by rfl))) ?_
              refine qm_q (i := 12) (l := [.o 11]) rfl rfl rfl rfl (by kernel_rfl) rfl (fun He => PV.rq (pv_nilp (.n rfl) rfl rfl (fun _ => rfl))) ?_
              refine qm_q (i := 13) (l := [.o 12]) rfl rfl rfl rfl (by kernel_rfl) rfl (fun He => PV.rq (pv_fa fa_44_0 (.n rfl) rfl rfl (fun _ => rfl))) ?_
              refine qm_q (i := 14) (l := [.o 13]) rfl rfl rfl rfl (by kernel_rfl) rfl (fun He => RV.rq (q_ldc tc_41 (.n rfl) rfl rfl (fun _ => rfl) (by rfl))) ?_
              refine qm_q (i := 16) (l := [.k 7]) rfl rfl rfl rfl (by kernel_rfl) rfl (fun He => PV.rq (pv_mv (.n rfl) rfl rfl (fun _ => rfl))) ?_
              refine qm_q (i := 17) (l := [.o 16]) rfl rfl rfl rfl (by kernel_rfl) rfl (fun He => PV.rq (pv_nilp (.n rfl) rfl rfl (fun _ => rfl))) ?_
              refine qm_q (i := 18) (l := [.o 17]) rfl rfl rfl rfl (by kernel_rfl) rfl (fun He => PV.rq (pv_fa fa_40_0 (.n rfl) rfl rfl (fun _ => rfl))) ?_
              refine qm_q (i := 19) (l := [.o 18]) rfl rfl rfl rfl (by kernel_rfl) rfl (fun He => RV.rq (q_ldc tc_38 (.n rfl) rfl rfl (fun _ => rfl) (by rfl))) ?_
              refine qm_ann (i1 := 15) (i2 := 20) (j := 21) (l1 := [.o 14]) (l2 := [.o 19]) zr_36 (by kernel_rfl) (by kernel_rfl) rfl rfl rfl rfl rfl rfl rfl rfl rfl rfl rfl rfl rfl rfl rfl (by kernel_rfl) (by kernel_rfl) (by kernel_rfl) (fun _ => by kernel_rfl) (fun _ => by kernel_rfl) (fun _ _ => by kernel_rfl) (fun _ _ => by kernel_rfl) (fun _ _ => by kernel_rfl) rfl rfl rfl rfl cf_18 cf_19 rfl rfl (.c rfl .n) (fun _ => (.c rfl .n)) (fun _ => (.c rfl .n)) (fun _ _ => (.c rfl .n)) (fun _ _ => (.c rfl .n)) (shop_HoldsN _ sb k1.shop (by omega) (by omega)) (keep_Records_oN _ kb k1 hK1 sb lv) fun hv1 rv1 b11 => ?_
              refine qm_rd hv1 fun hr1 => ?_
              refine qm_rd rv1 fun hq1 => ?_
              refine qb_store (.ofA ta_36) (i := 22) [.o 21, .o 7] (by kernel_rfl) (by kernel_rfl) rfl rfl rfl (by kernel_rfl) (by kernel_rfl) (by kernel_rfl) ⟨_, .n rfl, rfl⟩ rfl rfl rfl rfl (by first | rfl | exact rfl) (by first | rfl | exact (by first | rfl | simp [vI, Value.oneCell'])) (Ins.whole (by first | rfl | (simp only [List.length_map, List.length_cons, List.length_nil]; omega) | (simp [*]; done) | (simp [*]; rfl))) ?_
              refine qm_q (i := 23) (l := [.o 15]) rfl rfl rfl rfl (by kernel_rfl) rfl (fun He => PV.rq (pv_as (.n rfl) rfl rfl (fun _ => rfl))) ?_
              refine qm_q (i := 24) (l := [.o 20]) rfl rfl rfl rfl (by kernel_rfl) rfl (fun He => PV.rq (pv_as (.n rfl) rfl rfl (fun _ => rfl))) ?_
              refine qm_n (by kernel_rfl) (by kernel_rfl) (by kernel_rfl) (by kernel_rfl) (.c 0 rfl (.c 2 rfl (.c 6 rfl (.c 7 rfl (.c 8 rfl (.c 9 rfl (.c 10 rfl (.c 11 rfl (.c 12 rfl (.c 13 rfl .n)))))))))) ?_
              refine r_seq ?_
              refine r_ent (keepP_close (b := kb) (k := k1) sb lv rfl rfl) ?_
              refine r_ent (clerkP_close (b := b23) (k := k1) kb rfl) ?_
              refine r_region ?_
              refine p_mv rfl rfl ?_
              refine p_mv rfl rfl ?_
              refine p_mv rfl rfl ?_
              refine p_idx Try.underlying24 (.ofA ta_31) hu rfl (mapget hm) rfl rfl rfl ?_
              refine p_ldats 0 ta_31 (Rd.ent hu (by repeat (first | exact Ent.rfl | exact Ent.one Ent.h | exact Ent.one (SelS.ent) | exact Ent.nil | exact Ent.left | refine Ent.dropR ?_ | refine Ent.tr Ent.skip ?_))) (mapget hm) rfl rfl (.s (.s (.s (.s (.s (.s .z)))))) rfl ?_
              refine p_callc cf_16 (.c rfl (.c rfl .n)) rfl (clerk_again _ b23 k1 hK1 m o hag) ?_
              refine p_mv rfl rfl ?_
              refine p_ext rfl rfl rfl ?_
              refine p_ext rfl rfl rfl ?_
              refine p_alloc zr_31 rfl fun b14 => ?_
              refine p_store (.ofA ta_31) rfl rfl rfl (by first | rfl | exact rfl) (by first | rfl | exact (by first | rfl | simp [vI, Value.oneCell'])) (Ins.whole (by first | rfl | (simp only [List.length_map, List.length_cons, List.length_nil]; omega) | (simp [*]; done) | (simp [*]; rfl))) ?_
              refine p_as rfl rfl ?_
              refine o_keep (.c 0 rfl (.c 2 rfl (.c 6 rfl (.c 7 rfl (.c 8 rfl (.c 9 rfl (.c 10 rfl (.c 11 rfl (.c 12 rfl (.c 13 rfl (.c 14 rfl (.c 15 rfl .n)))))))))))) ?_
              refine r_seq ?_
              refine r_seq ?_
              refine r_sel (clerkP b23 k1) ?_
              refine r_ex fun kb => ?_
              refine r_cat ?_
              refine r_sel (keepP kb k1) ?_
              refine r_ex2 fun sb lv => ?_
              refine r_cat ?_
              refine r_rd lv fun hrl => ?_
              refine r_plan _ [] mo (.c 0 rfl (.c 2 rfl (.c 6 rfl (.c 7 rfl (.c 8 rfl (.c 9 rfl (.c 10 rfl (.c 11 rfl (.c 12 rfl (.c 13 rfl (.c 14 rfl (.c 15 rfl .n)))))))))))) Ent.rfl ?_
              refine qm_q (i := 0) (l := [.k 9]) rfl rfl rfl rfl (by kernel_rfl) rfl (fun He => RV.rq (q_lda ta_31 (.n rfl) rfl rfl (fun _ => rfl) (by exact (Tk.all rfl)))) ?_
              refine qm_q (i := 1) (l := [.k 14]) rfl rfl rfl rfl (by kernel_rfl) rfl (fun He => RV.rq (q_lda ta_31 (.n rfl) rfl rfl (fun _ => rfl) (by exact (Tk.all rfl)))) ?_
              refine qm_q (i := 2) (l := [.o 0, .o 1]) rfl rfl rfl rfl (by kernel_rfl) rfl (fun He => PV.rq (pv_to (pv_ane eq_Mail (.n rfl) rfl rfl rfl (fun _ => ⟨rfl, rfl⟩)) (show _ = Value.bool false by simp))) ?_
              refine qm_q (i := 3) (l := [.o 2]) rfl rfl rfl rfl (by kernel_rfl) rfl (fun He => PV.rq (pv_mv (.n rfl) rfl rfl (fun _ => rfl))) ?_
              refine qm_q (i := 4) (l := [.k 10, .o 3]) rfl rfl rfl rfl (by kernel_rfl) rfl (fun He => PV.rq (pv_ung (.s rfl rfl rfl) rfl (pv_mv (.n rfl) rfl rfl (fun _ => rfl)))) ?_
              refine qm_q (i := 5) (l := [.k 15, .o 3]) rfl rfl rfl rfl (by kernel_rfl) rfl (fun He => PV.rq (pv_ung (.s rfl rfl rfl) rfl (pv_mv (.n rfl) rfl rfl (fun _ => rfl)))) ?_
              refine qm_q (i := 6) (l := [.o 4, .o 5, .o 3]) rfl rfl rfl rfl (by kernel_rfl) rfl (fun He => PV.rq (pv_ung (.s rfl rfl rfl) rfl (pv_to (pv_bne Try.underlying4 (.n rfl) rfl rfl rfl (fun _ => ⟨rfl, rfl⟩)) (show _ = Value.bool false by simp)))) ?_
              refine qm_q (i := 7) (l := [.o 3, .o 6]) rfl rfl rfl rfl (by kernel_rfl) rfl (fun He => PV.rq (pv_or (.n rfl) rfl rfl rfl (fun _ => ⟨rfl, fun hc => by first | rfl | (rw [hc]; rfl) | simp_all⟩))) ?_
              refine qm_q (i := 8) (l := [.o 7]) rfl rfl rfl rfl (by kernel_rfl) rfl (fun He => PV.rq (pv_mv (.n rfl) rfl rfl (fun _ => rfl))) ?_
              refine qm_q (i := 9) (l := [.k 11, .o 8]) rfl rfl rfl rfl (by kernel_rfl) rfl (fun He => RV.rq (rv_ung (.s rfl rfl rfl) rfl (q_lda ta_36 (.n rfl) rfl rfl (fun _ => rfl) (by exact (Tk.all rfl))))) ?_
              refine qm_q (i := 10) (l := [.k 7, .o 8]) rfl rfl rfl rfl (by kernel_rfl) rfl (fun He => PV.rq (pv_ung (.s rfl rfl rfl) rfl (pv_mv (.n rfl) rfl rfl (fun _ => rfl)))) ?_
              refine qm_q (i := 11) (l := [.o 10, .o 8]) rfl rfl rfl rfl (by kernel_rfl) rfl (fun He => PV.rq (pv_ung (.s rfl rfl rfl) rfl (pv_nilp (.n rfl) rfl rfl (fun _ => rfl)))) ?_
              refine qm_q (i := 12) (l := [.o 11, .o 8]) rfl rfl rfl rfl (by kernel_rfl) rfl (fun He => PV.rq (pv_ung (.s rfl rfl rfl) rfl (pv_fa fa_40_0 (.n rfl) rfl rfl (fun _ => rfl)))) ?_
              refine qm_q (i := 13) (l := [.o 12, .o 8]) rfl rfl rfl rfl (by kernel_rfl) rfl (fun He => RV.rq (rv_ung (.s rfl rfl rfl) rfl (q_ldc tc_38 (.n rfl) rfl rfl (fun _ => rfl) (by rfl)))) ?_
              refine qm_q (i := 14) (l := [.o 13, .o 8]) rfl rfl rfl rfl (by kernel_rfl) rfl (fun He => PV.rq (pv_ung (.s rfl rfl rfl) rfl (pv_nilp (.n rfl) rfl rfl (fun _ => rfl)))) ?_
              refine qm_q (i := 15) (l := [.o 14, .o 8]) rfl rfl rfl rfl (by kernel_rfl) rfl (fun He => PV.rq (pv_ung (.s rfl rfl rfl) rfl (pv_fa fa_44_0 (.n rfl) rfl rfl (fun _ => rfl)))) ?_
              refine qm_q (i := 16) (l := [.o 15, .o 8]) rfl rfl rfl rfl (by kernel_rfl) rfl (fun He => RV.rq (rv_ung (.s rfl rfl rfl) rfl (q_ldc tc_41 (.n rfl) rfl rfl (fun _ => rfl) (by rfl)))) ?_
              refine qm_q (i := 17) (l := [.o 16, .o 8]) rfl rfl rfl rfl (by kernel_rfl) rfl (fun He => rq_ung (.s rfl rfl rfl) rfl (rq_call cf_17 (.n rfl) rfl (.c rfl (fun _ => rfl) .n) (fun hg => (shop_Counts _ sb k1.shop).q))) ?_
              refine qm_q (i := 18) (l := [.o 9, .o 17, .o 8]) rfl rfl rfl rfl (by kernel_rfl) rfl (fun He => PV.rq (pv_ung (.s rfl rfl rfl) rfl (pv_to (pv_ane eq_Cnts (.n rfl) rfl rfl rfl (fun _ => ⟨rfl, rfl⟩)) (show _ = Value.bool false by simp)))) ?_
              refine qm_q (i := 19) (l := [.o 8, .o 18]) rfl rfl rfl rfl (by kernel_rfl) rfl (fun He => PV.rq (pv_or (.n rfl) rfl rfl rfl (fun _ => ⟨rfl, fun hc => by first | rfl | (rw [hc]; rfl) | simp_all⟩))) ?_
              refine qm_q (i := 20) (l := [.o 19]) rfl rfl rfl rfl (by kernel_rfl) rfl (fun He => PV.rq (pv_mv (.n rfl) rfl rfl (fun _ => rfl))) ?_
              refine qm_q (i := 21) (l := [.k 12, .o 20]) rfl rfl rfl rfl (by kernel_rfl) rfl (fun He => PV.rq (pv_ung (.s rfl rfl rfl) rfl (pv_mv (.n rfl) rfl rfl (fun _ => rfl)))) ?_
              refine qm_q (i := 22) (l := [.k 7, .o 20]) rfl rfl rfl rfl (by kernel_rfl) rfl (fun He => PV.rq (pv_ung (.s rfl rfl rfl) rfl (pv_mv (.n rfl) rfl rfl (fun _ => rfl)))) ?_
              refine qm_q (i := 23) (l := [.o 22, .o 20]) rfl rfl rfl rfl (by kernel_rfl) rfl (fun He => PV.rq (pv_ung (.s rfl rfl rfl) rfl (pv_nilp (.n rfl) rfl rfl (fun _ => rfl)))) ?_
              refine qm_q (i := 24) (l := [.o 23, .o 20]) rfl rfl rfl rfl (by kernel_rfl) rfl (fun He => PV.rq (pv_ung (.s rfl rfl rfl) rfl (pv_fa fa_40_0 (.n rfl) rfl rfl (fun _ => rfl)))) ?_
              refine qm_q (i := 25) (l := [.o 24, .o 20]) rfl rfl rfl rfl (by kernel_rfl) rfl (fun He => RV.rq (rv_ung (.s rfl rfl rfl) rfl (q_ldc tc_38 (.n rfl) rfl rfl (fun _ => rfl) (by rfl)))) ?_
              refine qm_q (i := 26) (l := [.o 25, .o 20]) rfl rfl rfl rfl (by kernel_rfl) rfl (fun He => PV.rq (pv_ung (.s rfl rfl rfl) rfl (pv_nilp (.n rfl) rfl rfl (fun _ => rfl)))) ?_
              refine qm_q (i := 27) (l := [.o 26, .o 20]) rfl rfl rfl rfl (by kernel_rfl) rfl (fun He => PV.rq (pv_ung (.s rfl rfl rfl) rfl (pv_fa fa_44_0 (.n rfl) rfl rfl (fun _ => rfl)))) ?_
              refine qm_q (i := 28) (l := [.o 27, .o 20]) rfl rfl rfl rfl (by kernel_rfl) rfl (fun He => RV.rq (rv_ung (.s rfl rfl rfl) rfl (q_ldc tc_41 (.n rfl) rfl rfl (fun _ => rfl) (by rfl)))) ?_
              refine qm_calln (i := 29) [.o 28, .o 20] (by kernel_rfl) (by kernel_rfl) rfl rfl rfl rfl (by kernel_rfl) (by kernel_rfl) ⟨_, .s rfl rfl rfl, rfl⟩ cf_18 rfl (.c rfl .n) (shop_HoldsN _ sb k1.shop (by omega) (by omega)) fun hv2 => ?_
              refine qm_cat ?_
              refine qm_rd hv2 fun hr2 => ?_
              refine qm_keep ?_
              refine qm_q (i := 30) (l := [.o 21, .o 29, .o 20]) rfl rfl rfl rfl (by kernel_rfl) rfl (fun He => rq_ung (.s rfl rfl rfl) rfl (rq_call cf_20 (.n rfl) rfl (.c rfl (fun _ => rfl) (.c rfl (fun _ => rfl) .n)) (fun hg => fnv_tru (ref_SameHolds _ _ _ _ k1.shop.holds k1.shop.holds hr1.own hr2.own (by omega))))) ?_
              refine qm_q (i := 31) (l := [.o 30, .o 20]) rfl rfl rfl rfl (by kernel_rfl) rfl (fun He => PV.rq (pv_ung (.s rfl rfl rfl) rfl (pv_not (.n rfl) rfl rfl (fun _ => rfl)))) ?_
              refine qm_q (i := 32) (l := [.o 20, .o 31]) rfl rfl rfl rfl (by kernel_rfl) rfl (fun He => PV.rq (pv_or (.n rfl) rfl rfl rfl (fun _ => ⟨rfl, fun hc => by first | rfl | (rw [hc]; rfl) | simp_all⟩))) ?_
              refine qm_q (i := 33) (l := [.o 32]) rfl rfl rfl rfl (by kernel_rfl) rfl (fun He => PV.rq (pv_mv (.n rfl) rfl rfl (fun _ => rfl))) ?_
              refine qm_q (i := 34) (l := [.k 13, .o 33]) rfl rfl rfl rfl (by kernel_rfl) rfl (fun He => PV.rq (pv_ung (.s rfl rfl rfl) rfl (pv_mv (.n rfl) rfl rfl (fun _ => rfl)))) ?_
              refine qm_q (i := 35) (l := [.k 7, .o 33]) rfl rfl rfl rfl (by kernel_rfl) rfl (fun He => PV.rq (pv_ung (.s rfl rfl rfl) rfl (pv_mv (.n rfl) rfl rfl (fun _ => rfl)))) ?_
              refine qm_q (i := 36) (l := [.o 35, .o 33]) rfl rfl rfl rfl (by kernel_rfl) rfl (fun He => PV.rq (pv_ung (.s rfl rfl rfl) rfl (pv_nilp (.n rfl) rfl rfl (fun _ => rfl)))) ?_
              refine qm_q (i := 37) (l := [.o 36, .o 33]) rfl rfl rfl rfl (by kernel_rfl) rfl (fun He => PV.rq (pv_ung (.s rfl rfl rfl) rfl (pv_fa fa_40_0 (.n rfl) rfl rfl (fun _ => rfl)))) ?_
              refine qm_q (i := 38) (l := [.o 37, .o 33]) rfl rfl rfl rfl (by kernel_rfl) rfl (fun He => RV.rq (rv_ung (.s rfl rfl rfl) rfl (q_ldc tc_38 (.n rfl) rfl rfl (fun _ => rfl) (by rfl)))) ?_
              refine qm_calln (i := 39) [.o 38, .o 33] (by kernel_rfl) (by kernel_rfl) rfl rfl rfl rfl (by kernel_rfl) (by kernel_rfl) ⟨_, .s rfl rfl rfl, rfl⟩ cf_19 rfl (.c rfl .n) (keep_Records_oN _ kb k1 hK1 sb lv) fun rv2 => ?_
              refine qm_cat ?_
              refine qm_rd rv2 fun hq2 => ?_
              refine qm_keep ?_
              refine qm_q (i := 40) (l := [.o 34, .o 39, .o 33]) rfl rfl rfl rfl (by kernel_rfl) rfl (fun He => rq_ung (.s rfl rfl rfl) rfl (rq_call cf_21 (.n rfl) rfl (.c rfl (fun _ => rfl) (.c rfl (fun _ => rfl) .n)) (fun hg => fnv_tru (ref_SameRecords _ _ _ _ k1.l k1.l hq1.own hq2.own (by omega))))) ?_
              refine qm_q (i := 41) (l := [.o 40, .o 33]) rfl rfl rfl rfl (by kernel_rfl) rfl (fun He => PV.rq (pv_ung (.s rfl rfl rfl) rfl (pv_not (.n rfl) rfl rfl (fun _ => rfl)))) ?_
              refine qm_q (i := 42) (l := [.o 33, .o 41]) rfl rfl rfl rfl (by kernel_rfl) rfl (fun He => PV.rq (pv_or (.n rfl) rfl rfl rfl (fun _ => ⟨rfl, fun hc => by first | rfl | (rw [hc]; rfl) | simp_all⟩))) ?_
              refine qm_n (by kernel_rfl) (by kernel_rfl) (by kernel_rfl) (by kernel_rfl) (.c 0 rfl (.c 2 rfl (.c 6 rfl (.c 7 rfl (.c 8 rfl (.c 9 rfl (.c 10 rfl (.c 113 rfl .n)))))))) ?_
              refine r_cond _ rfl (fun h6 => ?_) (fun h6 => ?_)
              · simp at h6
              · skip
                refine r_skip ?_
                refine r_seq ?_
                rcases ho : o with _ | a
                · skip
                  refine r_plan _ [] mo (.c 0 rfl (.c 2 rfl (.c 6 rfl (.c 7 rfl (.c 8 rfl (.c 9 rfl (.c 10 rfl .n))))))) Ent.rfl ?_
                  refine qm_q (i := 0) (l := [.k 10]) rfl rfl rfl rfl (by kernel_rfl) rfl (fun He => PV.rq (pv_mv (.n rfl) rfl rfl (fun _ => rfl))) ?_
                  refine qm_q (i := 1) (l := [.o 0]) rfl rfl rfl rfl (by kernel_rfl) rfl (fun He => PV.rq (pv_mv (.n rfl) rfl rfl (fun _ => rfl))) ?_
                  refine qm_q (i := 2) (l := [.k 9, .o 1]) rfl rfl rfl rfl (by kernel_rfl) rfl (fun He => rq_no (v := .bool false) (.s rfl rfl rfl) rfl) ?_
                  refine qm_q (i := 3) (l := [.o 2, .o 1]) rfl rfl rfl rfl (by kernel_rfl) rfl (fun He => rq_no (v := .bool false) (.s rfl rfl rfl) rfl) ?_
                  refine qm_q (i := 4) (l := [.k 2, .o 1]) rfl rfl rfl rfl (by kernel_rfl) rfl (fun He => rq_no (v := .bool false) (.s rfl rfl rfl) rfl) ?_
                  refine qm_q (i := 5) (l := [.k 8, .o 1]) rfl rfl rfl rfl (by kernel_rfl) rfl (fun He => rq_no (v := .bool false) (.s rfl rfl rfl) rfl) ?_
                  refine qm_q (i := 6) (l := [.o 4, .o 5, .o 1]) rfl rfl rfl rfl (by kernel_rfl) rfl (fun He => rq_no (v := .bool false) (.s rfl rfl rfl) rfl) ?_
                  refine qm_q (i := 7) (l := [.o 6, .o 1]) rfl rfl rfl rfl (by kernel_rfl) rfl (fun He => rq_no (v := .bool false) (.s rfl rfl rfl) rfl) ?_
                  refine qm_q (i := 8) (l := [.o 7, .o 1]) rfl rfl rfl rfl (by kernel_rfl) rfl (fun He => rq_no (v := .bool false) (.s rfl rfl rfl) rfl) ?_
                  refine qm_q (i := 9) (l := [.o 3, .o 8, .o 1]) rfl rfl rfl rfl (by kernel_rfl) rfl (fun He => rq_no (v := .bool false) (.s rfl rfl rfl) rfl) ?_
                  refine qm_q (i := 10) (l := [.o 9, .o 1]) rfl rfl rfl rfl (by kernel_rfl) rfl (fun He => rq_no (v := .bool false) (.s rfl rfl rfl) rfl) ?_
                  refine qm_q (i := 11) (l := [.k 9, .o 10]) rfl rfl rfl rfl (by kernel_rfl) rfl (fun He => rq_no (v := .bool false) (.s rfl rfl rfl) rfl) ?_
                  refine qm_q (i := 12) (l := [.o 11, .o 10]) rfl rfl rfl rfl (by kernel_rfl) rfl (fun He => rq_no (v := .bool false) (.s rfl rfl rfl) rfl) ?_
                  refine qm_q (i := 13) (l := [.k 0, .o 10]) rfl rfl rfl rfl (by kernel_rfl) rfl (fun He => rq_no (v := .bool false) (.s rfl rfl rfl) rfl) ?_
                  refine qm_q (i := 14) (l := [.o 12, .o 13, .o 10]) rfl rfl rfl rfl (by kernel_rfl) rfl (fun He => rq_no (v := .bool false) (.s rfl rfl rfl) rfl) ?_
                  refine qm_q (i := 15) (l := [.o 10, .o 14, .o 1]) rfl rfl rfl rfl (by kernel_rfl) rfl (fun He => rq_no (v := .bool false) (.s rfl rfl rfl) rfl) ?_
                  refine qm_q (i := 16) (l := [.o 15, .o 1]) rfl rfl rfl rfl (by kernel_rfl) rfl (fun He => rq_no (v := .bool false) (.s rfl rfl rfl) rfl) ?_
                  refine qm_q (i := 17) (l := [.k 9, .o 16]) rfl rfl rfl rfl (by kernel_rfl) rfl (fun He => rq_no (v := .bool false) (.s rfl rfl rfl) rfl) ?_
                  refine qm_q (i := 18) (l := [.o 17, .o 16]) rfl rfl rfl rfl (by kernel_rfl) rfl (fun He => rq_no (v := .bool false) (.s rfl rfl rfl) rfl) ?_
                  refine qm_q (i := 19) (l := [.k 2, .o 16]) rfl rfl rfl rfl (by kernel_rfl) rfl (fun He => rq_no (v := .bool false) (.s rfl rfl rfl) rfl) ?_
                  refine qm_q (i := 20) (l := [.k 8, .o 16]) rfl rfl rfl rfl (by kernel_rfl) rfl (fun He => rq_no (v := .bool false) (.s rfl rfl rfl) rfl) ?_
                  refine qm_q (i := 21) (l := [.o 19, .o 20, .o 16]) rfl rfl rfl rfl (by kernel_rfl) rfl (fun He => rq_no (v := .bool false) (.s rfl rfl rfl) rfl) ?_
                  refine qm_q (i := 22) (l := [.o 21, .o 16]) rfl rfl rfl rfl (by kernel_rfl) rfl (fun He => rq_no (v := .bool false) (.s rfl rfl rfl) rfl) ?_
                  refine qm_q (i := 23) (l := [.o 22, .o 16]) rfl rfl rfl rfl (by kernel_rfl) rfl (fun He => rq_no (v := .bool false) (.s rfl rfl rfl) rfl) ?_
                  refine qm_q (i := 24) (l := [.o 18, .o 23, .o 16]) rfl rfl rfl rfl (by kernel_rfl) rfl (fun He => rq_no (v := .bool false) (.s rfl rfl rfl) rfl) ?_
                  refine qm_q (i := 25) (l := [.o 16, .o 24, .o 1]) rfl rfl rfl rfl (by kernel_rfl) rfl (fun He => rq_no (v := .bool false) (.s rfl rfl rfl) rfl) ?_
                  refine qm_q (i := 26) (l := [.o 25, .o 1]) rfl rfl rfl rfl (by kernel_rfl) rfl (fun He => rq_no (v := .bool false) (.s rfl rfl rfl) rfl) ?_
                  refine qm_q (i := 27) (l := [.k 2, .o 26]) rfl rfl rfl rfl (by kernel_rfl) rfl (fun He => rq_no (v := .bool false) (.s rfl rfl rfl) rfl) ?_
                  refine qm_q (i := 28) (l := [.k 8, .o 26]) rfl rfl rfl rfl (by kernel_rfl) rfl (fun He => rq_no (v := .bool false) (.s rfl rfl rfl) rfl) ?_
                  refine qm_q (i := 29) (l := [.o 27, .o 28, .o 26]) rfl rfl rfl rfl (by kernel_rfl) rfl (fun He => rq_no (v := .bool false) (.s rfl rfl rfl) rfl) ?_
                  refine qm_q (i := 30) (l := [.o 29, .o 26]) rfl rfl rfl rfl (by kernel_rfl) rfl (fun He => rq_no (v := .bool false) (.s rfl rfl rfl) rfl) ?_
                  refine qm_q (i := 31) (l := [.o 30, .o 26]) rfl rfl rfl rfl (by kernel_rfl) rfl (fun He => rq_no (v := .bool false) (.s rfl rfl rfl) rfl) ?_
                  refine qm_q (i := 32) (l := [.k 0, .o 26]) rfl rfl rfl rfl (by kernel_rfl) rfl (fun He => rq_no (v := .bool false) (.s rfl rfl rfl) rfl) ?_
                  refine qm_q (i := 33) (l := [.o 31, .o 32, .o 26]) rfl rfl rfl rfl (by kernel_rfl) rfl (fun He => rq_no (v := .bool false) (.s rfl rfl rfl) rfl) ?_
                  refine qm_q (i := 34) (l := [.o 26, .o 33, .o 1]) rfl rfl rfl rfl (by kernel_rfl) rfl (fun He => rq_no (v := .bool false) (.s rfl rfl rfl) rfl) ?_
                  refine qm_q (i := 35) (l := [.o 1, .o 34]) rfl rfl rfl rfl (by kernel_rfl) rfl (fun He => PV.rq (pv_andf (.n rfl) rfl rfl (fun _ => rfl))) ?_
                  refine qm_n (by kernel_rfl) (by kernel_rfl) (by kernel_rfl) (by kernel_rfl) (.c 0 rfl (.c 2 rfl (.c 6 rfl (.c 7 rfl (.c 8 rfl (.c 149 rfl .n)))))) ?_
                  refine r_cond _ rfl (fun h7 => ?_) (fun h7 => ?_)
                  · simp at h7
                  · skip
                    refine r_skip ?_
                    refine r_end ?_
                    refine r_region ?_
                    refine p_mv rfl rfl ?_
                    refine p_add rfl rfl (by omega) rfl ?_
                    refine p_as rfl rfl ?_
                    refine o_keep (.c 0 rfl (.c 2 rfl (.c 6 rfl (.c 7 rfl (.c 8 rfl .n))))) ?_
                    refine r_back_2 (i + 1) (k1) ?_ ?_ (Keep.app (.c 8 rfl .n) (.c 0 rfl (.c 2 rfl (.c 6 rfl (.c 7 rfl .n))))) ?_
                    · exact ⟨by omega, hK1, hkn1.1.trans hkn⟩
                    · omega
                    · refine Ent.tr (keepP_close (b := kb) (k := k1) sb lv rfl rfl) ?_; refine Ent.c (clerkP_close kb rfl) ?_; first | exact Ent.rfl | (repeat (first | exact Ent.rfl | refine Ent.c (SelB.ent) ?_ | refine Ent.c (SelS.ent) ?_ | refine Ent.cN ?_ | refine Ent.c (SelX.ent) ?_ | refine Ent.dropR ?_))
                · skip
                  obtain ⟨f1, f2, f3, f4, f5⟩ := ansK_some (hoe.trans ho)
                  refine r_plan _ [] mo (.c 0 rfl (.c 2 rfl (.c 6 rfl (.c 7 rfl (.c 8 rfl (.c 9 rfl (.c 10 rfl .n))))))) Ent.rfl ?_
                  refine qm_q (i := 0) (l := [.k 10]) rfl rfl rfl rfl (by kernel_rfl) rfl (fun He => PV.rq (pv_mv (.n rfl) rfl rfl (fun _ => rfl))) ?_
                  refine qm_q (i := 1) (l := [.o 0]) rfl rfl rfl rfl (by kernel_rfl) rfl (fun He => PV.rq (pv_mv (.n rfl) rfl rfl (fun _ => rfl))) ?_
                  refine qm_q (i := 2) (l := [.k 9, .o 1]) rfl rfl rfl rfl (by kernel_rfl) rfl (fun He => PV.rq (pv_ung (.s rfl rfl rfl) rfl (pv_fa fa_31_1 (.n rfl) rfl rfl (fun _ => rfl)))) ?_
                  refine qm_q (i := 3) (l := [.o 2, .o 1]) rfl rfl rfl rfl (by kernel_rfl) rfl (fun He => RV.rq (rv_ung (.s rfl rfl rfl) rfl (q_ldc tc_3 (.n rfl) rfl rfl (fun _ => rfl) (by rfl)))) ?_
                  refine qm_q (i := 4) (l := [.k 2, .o 1]) rfl rfl rfl rfl (by kernel_rfl) rfl (fun He => PV.rq (pv_ung (.s rfl rfl rfl) rfl (pv_mv (.n rfl) rfl rfl (fun _ => rfl)))) ?_
                  refine qm_q (i := 5) (l := [.k 8, .o 1]) rfl rfl rfl rfl (by kernel_rfl) rfl (fun He => PV.rq (pv_ung (.s rfl rfl rfl) rfl (pv_mv (.n rfl) rfl rfl (fun _ => rfl)))) ?_
                  refine qm_q (i := 6) (l := [.o 4, .o 5, .o 1]) rfl rfl rfl rfl (by kernel_rfl) rfl (fun He => PV.rq (pv_ung (.s rfl rfl rfl) rfl (pv_idx Try.underlying24 (.ofA ta_31) hu (fun hg => ⟨rfl, (mapget hm)⟩) (.n rfl) rfl rfl rfl (fun _ => ⟨rfl, rfl⟩)))) ?_
                  refine qm_q (i := 7) (l := [.o 6, .o 1]) rfl rfl rfl rfl (by kernel_rfl) rfl (fun He => PV.rq (pv_ung (.s rfl rfl rfl) rfl (pv_faat fa_31_1 (fun hg => Rd.sh hu (mapget hm)) (.n rfl) rfl rfl (fun _ => rfl)))) ?_
                  refine qm_q (i := 8) (l := [.o 7, .o 1]) rfl rfl rfl rfl (by kernel_rfl) rfl (fun He => RV.rq (rv_ung (.s rfl rfl rfl) rfl (rv_ldat (j := 1) tc_3 (Rd.ent hu (by repeat (first | exact Ent.rfl | exact Ent.one Ent.h | exact Ent.one (SelS.ent) | exact Ent.nil | exact Ent.left | refine Ent.dropR ?_ | refine Ent.tr Ent.skip ?_))) (fun hg => (mapget hm)) (.n rfl) rfl rfl (fun _ => rfl) rfl (fun _ => rfl)))) ?_
                  refine qm_q (i := 9) (l := [.o 3, .o 8, .o 1]) rfl rfl rfl rfl (by kernel_rfl) rfl (fun He => PV.rq (pv_ung (.s rfl rfl rfl) rfl (pv_to (pv_neq (.n rfl) rfl rfl rfl (fun _ => ⟨rfl, rfl⟩)) (show _ = Value.bool false by simp [f1])))) ?_
                  refine qm_q (i := 10) (l := [.o 9, .o 1]) rfl rfl rfl rfl (by kernel_rfl) rfl (fun He => PV.rq (pv_ung (.s rfl rfl rfl) rfl (pv_mv (.n rfl) rfl rfl (fun _ => rfl)))) ?_
                  refine qm_q (i := 11) (l := [.k 9, .o 10]) rfl rfl rfl rfl (by kernel_rfl) rfl (fun He => PV.rq (pv_ung (.s rfl rfl rfl) rfl (pv_fa fa_31_2 (.n rfl) rfl rfl (fun _ => rfl)))) ?_
                  refine qm_q (i := 12) (l := [.o 11, .o 10]) rfl rfl rfl rfl (by kernel_rfl) rfl (fun He => RV.rq (rv_ung (.s rfl rfl rfl) rfl (q_ldc tc_3 (.n rfl) rfl rfl (fun _ => rfl) (by rfl)))) ?_
                  refine qm_q (i := 13) (l := [.k 0, .o 10]) rfl rfl rfl rfl (by kernel_rfl) rfl (fun He => PV.rq (pv_ung (.s rfl rfl rfl) rfl (pv_mv (.n rfl) rfl rfl (fun _ => rfl)))) ?_
                  refine qm_q (i := 14) (l := [.o 12, .o 13, .o 10]) rfl rfl rfl rfl (by kernel_rfl) rfl (fun He => PV.rq (pv_ung (.s rfl rfl rfl) rfl (pv_to (pv_neq (.n rfl) rfl rfl rfl (fun _ => ⟨rfl, rfl⟩)) (show _ = Value.bool false by simp [f2, hkn])))) ?_
                  refine qm_q (i := 15) (l := [.o 10, .o 14, .o 1]) rfl rfl rfl rfl (by kernel_rfl) rfl (fun He => PV.rq (pv_ung (.s rfl rfl rfl) rfl (pv_or (.n rfl) rfl rfl rfl (fun _ => ⟨rfl, fun hc => by first | rfl | (rw [hc]; rfl) | simp_all⟩)))) ?_
                  refine qm_q (i := 16) (l := [.o 15, .o 1]) rfl rfl rfl rfl (by kernel_rfl) rfl (fun He => PV.rq (pv_ung (.s rfl rfl rfl) rfl (pv_mv (.n rfl) rfl rfl (fun _ => rfl)))) ?_
                  refine qm_q (i := 17) (l := [.k 9, .o 16]) rfl rfl rfl rfl (by kernel_rfl) rfl (fun He => PV.rq (pv_ung (.s rfl rfl rfl) rfl (pv_fa fa_31_3 (.n rfl) rfl rfl (fun _ => rfl)))) ?_
                  refine qm_q (i := 18) (l := [.o 17, .o 16]) rfl rfl rfl rfl (by kernel_rfl) rfl (fun He => RV.rq (rv_ung (.s rfl rfl rfl) rfl (q_lda ta_29 (.n rfl) rfl rfl (fun _ => rfl) (by exact (.s (.s .z)))))) ?_
                  refine qm_q (i := 19) (l := [.k 2, .o 16]) rfl rfl rfl rfl (by kernel_rfl) rfl (fun He => PV.rq (pv_ung (.s rfl rfl rfl) rfl (pv_mv (.n rfl) rfl rfl (fun _ => rfl)))) ?_
                  refine qm_q (i := 20) (l := [.k 8, .o 16]) rfl rfl rfl rfl (by kernel_rfl) rfl (fun He => PV.rq (pv_ung (.s rfl rfl rfl) rfl (pv_mv (.n rfl) rfl rfl (fun _ => rfl)))) ?_
                  refine qm_q (i := 21) (l := [.o 19, .o 20, .o 16]) rfl rfl rfl rfl (by kernel_rfl) rfl (fun He => PV.rq (pv_ung (.s rfl rfl rfl) rfl (pv_idx Try.underlying24 (.ofA ta_31) hu (fun hg => ⟨rfl, (mapget hm)⟩) (.n rfl) rfl rfl rfl (fun _ => ⟨rfl, rfl⟩)))) ?_
                  refine qm_q (i := 22) (l := [.o 21, .o 16]) rfl rfl rfl rfl (by kernel_rfl) rfl (fun He => PV.rq (pv_ung (.s rfl rfl rfl) rfl (pv_faat fa_31_3 (fun hg => Rd.sh hu (mapget hm)) (.n rfl) rfl rfl (fun _ => rfl)))) ?_
                  refine qm_q (i := 23) (l := [.o 22, .o 16]) rfl rfl rfl rfl (by kernel_rfl) rfl (fun He => RV.rq (rv_ung (.s rfl rfl rfl) rfl (rv_ldats (j := 3) ta_29 (Rd.ent hu (by repeat (first | exact Ent.rfl | exact Ent.one Ent.h | exact Ent.one (SelS.ent) | exact Ent.nil | exact Ent.left | refine Ent.dropR ?_ | refine Ent.tr Ent.skip ?_))) (fun hg => (mapget hm)) (.n rfl) rfl rfl (fun _ => rfl) rfl (.s (.s .z))))) ?_
                  refine qm_q (i := 24) (l := [.o 18, .o 23, .o 16]) rfl rfl rfl rfl (by kernel_rfl) rfl (fun He => PV.rq (pv_ung (.s rfl rfl rfl) rfl (pv_to (pv_ane eq_WantC (.n rfl) rfl rfl rfl (fun _ => ⟨rfl, rfl⟩)) (show _ = Value.bool false by simp [f3, f4])))) ?_
                  refine qm_q (i := 25) (l := [.o 16, .o 24, .o 1]) rfl rfl rfl rfl (by kernel_rfl) rfl (fun He => PV.rq (pv_ung (.s rfl rfl rfl) rfl (pv_or (.n rfl) rfl rfl rfl (fun _ => ⟨rfl, fun hc => by first | rfl | (rw [hc]; rfl) | simp_all⟩)))) ?_
                  refine qm_q (i := 26) (l := [.o 25, .o 1]) rfl rfl rfl rfl (by kernel_rfl) rfl (fun He => PV.rq (pv_ung (.s rfl rfl rfl) rfl (pv_mv (.n rfl) rfl rfl (fun _ => rfl)))) ?_
                  refine qm_q (i := 27) (l := [.k 2, .o 26]) rfl rfl rfl rfl (by kernel_rfl) rfl (fun He => PV.rq (pv_ung (.s rfl rfl rfl) rfl (pv_mv (.n rfl) rfl rfl (fun _ => rfl)))) ?_
                  refine qm_q (i := 28) (l := [.k 8, .o 26]) rfl rfl rfl rfl (by kernel_rfl) rfl (fun He => PV.rq (pv_ung (.s rfl rfl rfl) rfl (pv_mv (.n rfl) rfl rfl (fun _ => rfl)))) ?_
                  refine qm_q (i := 29) (l := [.o 27, .o 28, .o 26]) rfl rfl rfl rfl (by kernel_rfl) rfl (fun He => PV.rq (pv_ung (.s rfl rfl rfl) rfl (pv_idx Try.underlying24 (.ofA ta_31) hu (fun hg => ⟨rfl, (mapget hm)⟩) (.n rfl) rfl rfl rfl (fun _ => ⟨rfl, rfl⟩)))) ?_
                  refine qm_q (i := 30) (l := [.o 29, .o 26]) rfl rfl rfl rfl (by kernel_rfl) rfl (fun He => PV.rq (pv_ung (.s rfl rfl rfl) rfl (pv_faat fa_31_2 (fun hg => Rd.sh hu (mapget hm)) (.n rfl) rfl rfl (fun _ => rfl)))) ?_
                  refine qm_q (i := 31) (l := [.o 30, .o 26]) rfl rfl rfl rfl (by kernel_rfl) rfl (fun He => RV.rq (rv_ung (.s rfl rfl rfl) rfl (rv_ldat (j := 2) tc_3 (Rd.ent hu (by repeat (first | exact Ent.rfl | exact Ent.one Ent.h | exact Ent.one (SelS.ent) | exact Ent.nil | exact Ent.left | refine Ent.dropR ?_ | refine Ent.tr Ent.skip ?_))) (fun hg => (mapget hm)) (.n rfl) rfl rfl (fun _ => rfl) rfl (fun _ => rfl)))) ?_
                  refine qm_q (i := 32) (l := [.k 0, .o 26]) rfl rfl rfl rfl (by kernel_rfl) rfl (fun He => PV.rq (pv_ung (.s rfl rfl rfl) rfl (pv_mv (.n rfl) rfl rfl (fun _ => rfl)))) ?_
                  refine qm_q (i := 33) (l := [.o 31, .o 32, .o 26]) rfl rfl rfl rfl (by kernel_rfl) rfl (fun He => PV.rq (pv_ung (.s rfl rfl rfl) rfl (pv_to (pv_neq (.n rfl) rfl rfl rfl (fun _ => ⟨rfl, rfl⟩)) (show _ = Value.bool false by simp [f5, hkn])))) ?_
                  refine qm_q (i := 34) (l := [.o 26, .o 33, .o 1]) rfl rfl rfl rfl (by kernel_rfl) rfl (fun He => PV.rq (pv_ung (.s rfl rfl rfl) rfl (pv_or (.n rfl) rfl rfl rfl (fun _ => ⟨rfl, fun hc => by first | rfl | (rw [hc]; rfl) | simp_all⟩)))) ?_
                  refine qm_q (i := 35) (l := [.o 1, .o 34]) rfl rfl rfl rfl (by kernel_rfl) rfl (fun He => PV.rq (pv_and (.n rfl) rfl rfl rfl (fun _ => ⟨rfl, fun hc => by first | rfl | (rw [hc]; rfl) | simp_all⟩))) ?_
                  refine qm_n (by kernel_rfl) (by kernel_rfl) (by kernel_rfl) (by kernel_rfl) (.c 0 rfl (.c 2 rfl (.c 6 rfl (.c 7 rfl (.c 8 rfl (.c 149 rfl .n)))))) ?_
                  refine r_cond _ rfl (fun h8 => ?_) (fun h8 => ?_)
                  · simp at h8
                  · skip
                    refine r_skip ?_
                    refine r_end ?_
                    refine r_region ?_
                    refine p_mv rfl rfl ?_
                    refine p_add rfl rfl (by omega) rfl ?_
                    refine p_as rfl rfl ?_
                    refine o_keep (.c 0 rfl (.c 2 rfl (.c 6 rfl (.c 7 rfl (.c 8 rfl .n))))) ?_
                    refine r_back_2 (i + 1) (k1) ?_ ?_ (Keep.app (.c 8 rfl .n) (.c 0 rfl (.c 2 rfl (.c 6 rfl (.c 7 rfl .n))))) ?_
                    · exact ⟨by omega, hK1, hkn1.1.trans hkn⟩
                    · omega
                    · refine Ent.tr (keepP_close (b := kb) (k := k1) sb lv rfl rfl) ?_; refine Ent.c (clerkP_close kb rfl) ?_; first | exact Ent.rfl | (repeat (first | exact Ent.rfl | refine Ent.c (SelB.ent) ?_ | refine Ent.c (SelS.ent) ?_ | refine Ent.cN ?_ | refine Ent.c (SelX.ent) ?_ | refine Ent.dropR ?_))
            · skip
              refine r_exit rfl ?_
              refine r_seq ?_
              refine r_region ?_
              refine p_as rfl rfl ?_
              refine o_keep (.c 6 rfl .n) ?_
              refine r_retv hF rfl (.c (.t rfl) .n) ?_ ?_
              · first | exact Ent.rfl | (repeat (first | exact Ent.rfl | refine Ent.c (SelB.ent) ?_ | refine Ent.c (SelS.ent) ?_ | refine Ent.cN ?_ | refine Ent.c (SelX.ent) ?_ | refine Ent.dropR ?_))
              · first | rfl | exact bool_eq (by simp)

end Go.Proofs.Ytmakdilmibjpbac
