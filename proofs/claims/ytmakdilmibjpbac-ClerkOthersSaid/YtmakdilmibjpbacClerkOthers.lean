/- The walks of ClerkOthers: written by a program of ours (gen.py) over the engine. -/
import Derived.Test.YtmakdilmibjpbacPlain
import Derived.Test.YtmakdilmibjpbacFacts
import Derived.Test.YtmakdilmibjpbacClerkLaws
namespace Go.Proofs.Ytmakdilmibjpbac
open Go Go.RowKit
set_option linter.unusedVariables false
set_option linter.unusedSimpArgs false
set_option maxRecDepth 20000

theorem any_take {α : Type} {p : α → Bool} {l : List α} {i : Nat} {a : α} (h : l[i]? = some a) : (l.take (i + 1)).any p = ((l.take i).any p || p a) := by rw [List.take_add_one, h]; simp

theorem law_ClerkOthers (M : Amb) (H : List HP) (no : Int) (ws : List Int) (hws : ws.length = 6) (uv : Value) (ls : List Mail) (hu : Rd M [] uv 6 (ls.map rM)) (m : Mail) : FnV Try.prog M H 4 [.int .i64 no, .agg (ws.map vI).toArray, uv, .agg (rM m).toArray] (.bool true) := by
  refine fn_intro Try.func4 rfl Try.ntmps4 rfl fun F hF => ?_
  refine r_seq ?_
  refine r_region ?_
  refine p_box rfl rfl rfl fun b5 => ?_
  refine p_box rfl rfl rfl fun b7 => ?_
  refine p_as rfl rfl ?_
  refine o_keep (.c 0 rfl (.c 2 rfl (.c 5 rfl (.c 7 rfl (.c 8 rfl .n))))) ?_
  refine r_seq ?_
  refine r_seq ?_
  refine r_region ?_
  refine p_callv cf_14 (.n) rfl (law_clerkBegun _ _) ?_
  refine p_not rfl rfl ?_
  refine o_keep (.c 0 rfl (.c 2 rfl (.c 5 rfl (.c 7 rfl (.c 8 rfl (.c 22 rfl .n)))))) ?_
  refine r_cond _ rfl (fun h1 => ?_) (fun h1 => ?_)
  · simp at h1
  · skip
    refine r_skip ?_
    refine r_seq ?_
    refine r_seq ?_
    refine r_region ?_
    refine p_mv rfl rfl ?_
    refine l_op (x_p (pv_lens hu.len ⟨_, Try.underlying24⟩ (.n rfl) rfl rfl rfl rfl (fun _ => rfl)) rfl rfl ?_)
    refine p_gtr rfl rfl rfl ?_
    refine o_keep (.c 0 rfl (.c 2 rfl (.c 5 rfl (.c 7 rfl (.c 8 rfl (.c 25 rfl .n)))))) ?_
    refine r_cond _ rfl (fun h2 => ?_) (fun h2 => ?_)
    · skip
      refine r_seq ?_
      refine r_region ?_
      refine p_as rfl rfl ?_
      refine o_keep (.c 0 rfl (.c 2 rfl (.c 5 rfl (.c 7 rfl (.c 8 rfl .n))))) ?_
      refine r_retv hF rfl (.c (.t rfl) .n) ?_ ?_
      · first | exact Ent.rfl | (repeat (first | exact Ent.rfl | refine Ent.c (SelB.ent) ?_ | refine Ent.c (SelS.ent) ?_ | refine Ent.cN ?_ | refine Ent.c (SelX.ent) ?_ | refine Ent.dropR ?_))
      · first | rfl | (refine bool_eq ?_; simp; done) | (refine bool_eq ?_; simp [hH2, ha5]; done) | (refine bool_eq ?_; simp_all)
    · skip
      have hL := of_decide_eq_false h2
      refine r_skip ?_
      refine r_seq ?_
      rcases hn : newS no ws with _ | s0
      · skip
        refine r_region ?_
        refine p_mv rfl rfl ?_
        refine p_lda ta_23 rfl (by exact (Tk.all (by first | rfl | assumption | (simp only [List.drop_zero, List.length_map]; assumption) | (simp [*]; done)))) rfl ?_
        refine p_callc cf_15 (.c rfl (.c rfl .n)) rfl (clerk_New_none _ no ws hws hn) ?_
        refine p_as rfl rfl ?_
        refine o_keep (.c 0 rfl (.c 2 rfl (.c 7 rfl (.c 8 rfl (.c 9 rfl .n))))) ?_
        refine r_seq ?_
        refine r_seq ?_
        refine r_region ?_
        refine p_mv rfl rfl ?_
        refine l_op (x_p (pv_peqn Try.underlying26 (.n rfl) rfl rfl rfl (fun _ => ⟨rfl, rfl⟩)) rfl rfl ?_)
        refine o_keep (.c 0 rfl (.c 2 rfl (.c 7 rfl (.c 8 rfl (.c 9 rfl (.c 30 rfl .n)))))) ?_
        refine r_cond _ rfl (fun h3 => ?_) (fun h3 => ?_)
        · skip
          refine r_seq ?_
          refine r_region ?_
          refine p_as rfl rfl ?_
          refine o_keep (.c 0 rfl (.c 2 rfl (.c 7 rfl (.c 8 rfl (.c 9 rfl .n))))) ?_
          refine r_retv hF rfl (.c (.t rfl) .n) ?_ ?_
          · first | exact Ent.rfl | (repeat (first | exact Ent.rfl | refine Ent.c (SelB.ent) ?_ | refine Ent.c (SelS.ent) ?_ | refine Ent.cN ?_ | refine Ent.c (SelX.ent) ?_ | refine Ent.dropR ?_))
          · first | rfl | (refine bool_eq ?_; simp; done) | (refine bool_eq ?_; simp [hH2, ha5]; done) | (refine bool_eq ?_; simp_all)
        · simp at h3
      · skip
        refine r_region ?_
        refine p_mv rfl rfl ?_
        refine p_lda ta_23 rfl (by exact (Tk.all (by first | rfl | assumption | (simp only [List.drop_zero, List.length_map]; assumption) | (simp [*]; done)))) rfl ?_
        refine p_calle cf_15 (.c rfl (.c rfl .n)) rfl (clerk_New_some _ no ws hws hn) fun b28 => ?_
        refine o_cat ?_
        refine p_as rfl rfl ?_
        refine o_keep (.c 0 rfl (.c 2 rfl (.c 7 rfl (.c 8 rfl (.c 9 rfl .n))))) ?_
        refine r_seq ?_
        refine r_seq ?_
        refine r_region ?_
        refine p_mv rfl rfl ?_
        refine l_op (x_p (pv_peqn Try.underlying26 (.n rfl) rfl rfl rfl (fun _ => ⟨rfl, rfl⟩)) rfl rfl ?_)
        refine o_keep (.c 0 rfl (.c 2 rfl (.c 7 rfl (.c 8 rfl (.c 9 rfl (.c 30 rfl .n)))))) ?_
        refine r_cond _ rfl (fun h4 => ?_) (fun h4 => ?_)
        · simp at h4
        · skip
          refine r_skip ?_
          refine r_seq ?_
          refine r_seq ?_
          refine r_region ?_
          refine p_as rfl rfl ?_
          refine o_keep (.c 0 rfl (.c 2 rfl (.c 7 rfl (.c 8 rfl (.c 9 rfl (.c 10 rfl .n)))))) ?_
          refine r_block ?_
          refine r_loop_2 (fun (i : Nat) (k : KeepS) => [(10, true, .int .i64 (i : Int))]) (.c 0 rfl (.c 2 rfl (.c 7 rfl (.c 8 rfl (.c 9 rfl .n))))) (fun (i : Nat) (k : KeepS) => clerkP b28 k :: blk b7 (rM m) 31 :: blk b5 (ws.map vI) 23 :: H) (fun (i : Nat) (k : KeepS) => i ≤ ls.length ∧ KInv k ∧ k.no = no) (fun (i : Nat) (k : KeepS) => ls.length - i) (0) (⟨no, ws, s0, []⟩) ?_ (.c 10 rfl .n) ?_ (fun i k hI => ?_)
          · exact ⟨Nat.zero_le _, (KInv.new (no := no) (ws := ws) (k := ⟨no, ws, s0, []⟩) (by unfold newK; rw [hn]; rfl)).1, rfl⟩
          · first | exact Ent.rfl | (repeat (first | exact Ent.rfl | refine Ent.c (SelB.ent) ?_ | refine Ent.c (SelS.ent) ?_ | refine Ent.cN ?_ | refine Ent.c (SelX.ent) ?_ | refine Ent.dropR ?_))
          · skip
            obtain ⟨hil, hK, hkn⟩ := hI
            refine r_seq ?_
            refine r_seq ?_
            refine r_region ?_
            refine p_mv rfl rfl ?_
            refine p_mv rfl rfl ?_
            refine l_op (x_p (pv_lens hu.len ⟨_, Try.underlying24⟩ (.n rfl) rfl rfl rfl rfl (fun _ => rfl)) rfl rfl ?_)
            refine p_lss rfl rfl rfl ?_
            refine o_keep (.c 0 rfl (.c 2 rfl (.c 7 rfl (.c 8 rfl (.c 9 rfl (.c 10 rfl (.c 34 rfl .n))))))) ?_
            refine r_cond _ rfl (fun h5 => ?_) (fun h5 => ?_)
            · skip
              obtain ⟨x, hm⟩ := getlt (l := ls) (i := i) (by have := of_decide_eq_true h5; omega)
              have hil2 := (List.getElem?_eq_some_iff.1 hm).1
              refine r_skip ?_
              refine r_seq ?_
              refine r_block ?_
              refine r_region ?_
              refine p_mv rfl rfl ?_
              refine p_mv rfl rfl ?_
              refine p_mv rfl rfl ?_
              refine p_idx Try.underlying24 (.ofA ta_31) hu rfl (mapget hm) rfl rfl rfl ?_
              refine p_ldats 0 ta_31 (Rd.ent hu (by repeat (first | exact Ent.rfl | exact Ent.one Ent.h | exact Ent.one (SelS.ent) | exact Ent.nil | exact Ent.left | refine Ent.dropR ?_ | refine Ent.tr Ent.skip ?_))) (mapget hm) rfl rfl (.s (.s (.s (.s (.s (.s .z)))))) rfl ?_
              refine p_callc cf_16 (.c rfl (.c rfl .n)) rfl (clerk_Answer _ b28 k hK x) ?_
              refine o_keep (.c 0 rfl (.c 2 rfl (.c 7 rfl (.c 8 rfl (.c 9 rfl (.c 10 rfl .n)))))) ?_
              refine r_end ?_
              refine r_region ?_
              refine p_mv rfl rfl ?_
              refine p_add rfl rfl (by omega) rfl ?_
              refine p_as rfl rfl ?_
              refine o_keep (.c 0 rfl (.c 2 rfl (.c 7 rfl (.c 8 rfl (.c 9 rfl (.c 10 rfl .n)))))) ?_
              refine r_back_2 (i + 1) ((ansK k x).1) ?_ ?_ (Keep.app (.c 10 rfl .n) (.c 0 rfl (.c 2 rfl (.c 7 rfl (.c 8 rfl (.c 9 rfl .n)))))) ?_
              · exact ⟨by omega, hK.ans x, (ansK_no k x).1.trans hkn⟩
              · omega
              · first | exact Ent.rfl | (repeat (first | exact Ent.rfl | refine Ent.c (SelB.ent) ?_ | refine Ent.c (SelS.ent) ?_ | refine Ent.cN ?_ | refine Ent.c (SelX.ent) ?_ | refine Ent.dropR ?_))
            · skip
              refine r_exit rfl ?_
              refine r_seq ?_
              have hh1 := hK.sh.holds_le
              have hh2 := hK.sh.over_le
              have hh3 := hK.l_le
              refine r_sel (clerkP b28 k) ?_
              refine r_ex fun kb => ?_
              refine r_cat ?_
              refine r_sel (keepP kb k) ?_
              refine r_ex2 fun sb lv => ?_
              refine r_cat ?_
              refine r_rd lv fun hrl => ?_
              refine r_plan _ [] mo (.c 0 rfl (.c 7 rfl (.c 8 rfl (.c 9 rfl .n)))) Ent.rfl ?_
              refine qm_q (i := 0) (l := [.k 9]) rfl rfl rfl rfl (by kernel_rfl) rfl (fun He => PV.rq (pv_mv (.n rfl) rfl rfl (fun _ => rfl))) ?_
              refine qm_q (i := 1) (l := [.o 0]) rfl rfl rfl rfl (by kernel_rfl) rfl (fun He => PV.rq (pv_nilp (.n rfl) rfl rfl (fun _ => rfl))) ?_
              refine qm_q (i := 2) (l := [.o 1]) rfl rfl rfl rfl (by kernel_rfl) rfl (fun He => PV.rq (pv_fa fa_40_0 (.n rfl) rfl rfl (fun _ => rfl))) ?_
              refine qm_q (i := 3) (l := [.o 2]) rfl rfl rfl rfl (by kernel_rfl) rfl (fun He => RV.rq (q_ldc tc_38 (.n rfl) rfl rfl (fun _ => rfl) (by rfl))) ?_
              refine qm_q (i := 4) (l := [.o 3]) rfl rfl rfl rfl (by kernel_rfl) rfl (fun He => PV.rq (pv_nilp (.n rfl) rfl rfl (fun _ => rfl))) ?_
              refine qm_q (i := 5) (l := [.o 4]) rfl rfl rfl rfl (by kernel_rfl) rfl (fun He => PV.rq (pv_fa fa_44_0 (.n rfl) rfl rfl (fun _ => rfl))) ?_
              refine qm_q (i := 6) (l := [.o 5]) rfl rfl rfl rfl (by kernel_rfl) rfl (fun He => RV.rq (q_ldc tc_41 (.n rfl) rfl rfl (fun _ => rfl) (by rfl))) ?_
              refine qm_q (i := 7) (l := [.o 6]) rfl rfl rfl rfl (by kernel_rfl) rfl (fun He => rq_call cf_17 (.n rfl) rfl (.c rfl (fun _ => rfl) .n) (fun hg => (shop_Counts _ sb k.shop).q)) ?_
              refine qm_q (i := 8) (l := [.k 9]) rfl rfl rfl rfl (by kernel_rfl) rfl (fun He => PV.rq (pv_mv (.n rfl) rfl rfl (fun _ => rfl))) ?_
              refine qm_q (i := 9) (l := [.o 8]) rfl rfl rfl rfl (by kernel_rfl) rfl (fun He => PV.rq (pv_nilp (.n rfl) rfl rfl (fun _ => rfl))) ?_
              refine qm_q (i := 10) (l := [.o 9]) rfl rfl rfl rfl (by kernel_rfl) rfl (fun He => PV.rq (pv_fa fa_40_0 (.n rfl) rfl rfl (fun _ => rfl))) ?_
              refine qm_q (i := 11) (l := [.o 10]) rfl rfl rfl rfl (by kernel_rfl) rfl (fun He => RV.rq (q_ldc tc_38 (.n rfl) rfl rfl (fun _ => rfl) (by rfl))) ?_
              refine qm_q (i := 12) (l := [.o 11]) rfl rfl rfl rfl (by kernel_rfl) rfl (fun He => PV.rq (pv_nilp (.n rfl) rfl rfl (fun _ => rfl))) ?_
              refine qm_q (i := 13) (l := [.o 12]) rfl rfl rfl rfl (by kernel_rfl) rfl (fun He => PV.rq (pv_fa fa_44_0 (.n rfl) rfl rfl (fun _ => rfl))) ?_
              refine qm_q (i := 14) (l := [.o 13]) rfl rfl rfl rfl (by kernel_rfl) rfl (fun He => RV.rq (q_ldc tc_41 (.n rfl) rfl rfl (fun _ => rfl) (by rfl))) ?_
              refine qm_q (i := 16) (l := [.k 9]) rfl rfl rfl rfl (by kernel_rfl) rfl (fun He => PV.rq (pv_mv (.n rfl) rfl rfl (fun _ => rfl))) ?_
              refine qm_q (i := 17) (l := [.o 16]) rfl rfl rfl rfl (by kernel_rfl) rfl (fun He => PV.rq (pv_nilp (.n rfl) rfl rfl (fun _ => rfl))) ?_
              refine qm_q (i := 18) (l := [.o 17]) rfl rfl rfl rfl (by kernel_rfl) rfl (fun He => PV.rq (pv_fa fa_40_0 (.n rfl) rfl rfl (fun _ => rfl))) ?_
              refine qm_q (i := 19) (l := [.o 18]) rfl rfl rfl rfl (by kernel_rfl) rfl (fun He => RV.rq (q_ldc tc_38 (.n rfl) rfl rfl (fun _ => rfl) (by rfl))) ?_
              refine qm_ann (i1 := 15) (i2 := 20) (j := 21) (l1 := [.o 14]) (l2 := [.o 19]) zr_36 (by kernel_rfl) (by kernel_rfl) rfl rfl rfl rfl rfl rfl rfl rfl rfl rfl rfl rfl rfl rfl rfl (by kernel_rfl) (by kernel_rfl) (by kernel_rfl) (fun _ => by kernel_rfl) (fun _ => by kernel_rfl) (fun _ _ => by kernel_rfl) (fun _ _ => by kernel_rfl) (fun _ _ => by kernel_rfl) rfl rfl rfl rfl cf_18 cf_19 rfl rfl (.c rfl .n) (fun _ => (.c rfl .n)) (fun _ => (.c rfl .n)) (fun _ _ => (.c rfl .n)) (fun _ _ => (.c rfl .n)) (shop_HoldsN _ sb k.shop (by omega) (by omega)) (keep_Records_oN _ kb k hK sb lv) fun hv1 rv1 b11 => ?_
              refine qm_rd hv1 fun hr1 => ?_
              refine qm_rd rv1 fun hq1 => ?_
              refine qb_store (.ofA ta_36) (i := 22) [.o 21, .o 7] (by kernel_rfl) (by kernel_rfl) rfl rfl rfl (by kernel_rfl) (by kernel_rfl) (by kernel_rfl) ⟨_, .n rfl, rfl⟩ rfl rfl rfl rfl (by first | rfl | exact rfl) (by first | rfl | exact (by first | rfl | simp [vI, Value.oneCell'])) (Ins.whole (by first | rfl | (simp only [List.length_map, List.length_cons, List.length_nil]; omega) | (simp [*]; done) | (simp [*]; rfl))) ?_
              refine qm_q (i := 23) (l := [.o 15]) rfl rfl rfl rfl (by kernel_rfl) rfl (fun He => PV.rq (pv_as (.n rfl) rfl rfl (fun _ => rfl))) ?_
              refine qm_q (i := 24) (l := [.o 20]) rfl rfl rfl rfl (by kernel_rfl) rfl (fun He => PV.rq (pv_as (.n rfl) rfl rfl (fun _ => rfl))) ?_
              refine qm_n (by kernel_rfl) (by kernel_rfl) (by kernel_rfl) (by kernel_rfl) (.c 0 rfl (.c 7 rfl (.c 8 rfl (.c 9 rfl (.c 11 rfl (.c 12 rfl (.c 13 rfl .n))))))) ?_
              refine r_seq ?_
              refine r_plan _ [] mo (.c 0 rfl (.c 7 rfl (.c 8 rfl (.c 9 rfl (.c 11 rfl (.c 12 rfl (.c 13 rfl .n))))))) Ent.rfl ?_
              refine qm_q (i := 0) (l := [.k 9]) rfl rfl rfl rfl (by kernel_rfl) rfl (fun He => PV.rq (pv_mv (.n rfl) rfl rfl (fun _ => rfl))) ?_
              refine qm_q (i := 1) (l := [.o 0]) rfl rfl rfl rfl (by kernel_rfl) rfl (fun He => PV.rq (pv_nilp (.n rfl) rfl rfl (fun _ => rfl))) ?_
              refine qm_q (i := 2) (l := [.o 1]) rfl rfl rfl rfl (by kernel_rfl) rfl (fun He => PV.rq (pv_fa fa_40_0 (.n rfl) rfl rfl (fun _ => rfl))) ?_
              refine qm_q (i := 3) (l := [.o 2]) rfl rfl rfl rfl (by kernel_rfl) rfl (fun He => RV.rq (q_ldc tc_38 (.n rfl) rfl rfl (fun _ => rfl) (by rfl))) ?_
              refine qm_q (i := 4) (l := [.o 3]) rfl rfl rfl rfl (by kernel_rfl) rfl (fun He => PV.rq (pv_nilp (.n rfl) rfl rfl (fun _ => rfl))) ?_
              refine qm_q (i := 5) (l := [.o 4]) rfl rfl rfl rfl (by kernel_rfl) rfl (fun He => PV.rq (pv_fa fa_44_0 (.n rfl) rfl rfl (fun _ => rfl))) ?_
              refine qm_q (i := 6) (l := [.o 5]) rfl rfl rfl rfl (by kernel_rfl) rfl (fun He => RV.rq (q_ldc tc_41 (.n rfl) rfl rfl (fun _ => rfl) (by rfl))) ?_
              refine qm_q (i := 7) (l := [.k 7]) rfl rfl rfl rfl (by kernel_rfl) rfl (fun He => PV.rq (pv_fa fa_31_1 (.n rfl) rfl rfl (fun _ => rfl))) ?_
              refine qm_q (i := 8) (l := [.o 7]) rfl rfl rfl rfl (by kernel_rfl) rfl (fun He => RV.rq (q_ldc tc_3 (.n rfl) rfl rfl (fun _ => rfl) (by rfl))) ?_
              refine qm_q (i := 9) (l := [.o 6, .o 8]) rfl rfl rfl rfl (by kernel_rfl) rfl (fun He => rq_call cf_22 (.n rfl) rfl (.c rfl (fun _ => rfl) (.c rfl (fun _ => rfl) .n)) (fun hg => (shop_Over _ sb k.shop (by omega) (by omega) m.deal).q)) ?_
              refine qm_q (i := 10) (l := [.o 9]) rfl rfl rfl rfl (by kernel_rfl) rfl (fun He => PV.rq (pv_mv (.n rfl) rfl rfl (fun _ => rfl))) ?_
              refine qm_q (i := 11) (l := [.o 10]) rfl rfl rfl rfl (by kernel_rfl) rfl (fun He => PV.rq (pv_ext (.n rfl) rfl rfl rfl (fun _ => rfl))) ?_
              refine qm_q (i := 12) (l := [.o 10]) rfl rfl rfl rfl (by kernel_rfl) rfl (fun He => PV.rq (pv_ext (.n rfl) rfl rfl rfl (fun _ => rfl))) ?_
              refine qm_q (i := 13) (l := [.o 11]) rfl rfl rfl rfl (by kernel_rfl) rfl (fun He => PV.rq (pv_as (.n rfl) rfl rfl (fun _ => rfl))) ?_
              refine qm_q (i := 14) (l := [.o 12]) rfl rfl rfl rfl (by kernel_rfl) rfl (fun He => PV.rq (pv_as (.n rfl) rfl rfl (fun _ => rfl))) ?_
              refine qm_n (by kernel_rfl) (by kernel_rfl) (by kernel_rfl) (by kernel_rfl) (.c 0 rfl (.c 7 rfl (.c 8 rfl (.c 9 rfl (.c 11 rfl (.c 12 rfl (.c 13 rfl (.c 14 rfl (.c 15 rfl .n))))))))) ?_
              refine r_seq ?_
              refine r_ent (keepP_close (b := kb) (k := k) sb lv rfl rfl) ?_
              refine r_ent (clerkP_close (b := b28) (k := k) kb rfl) ?_
              refine r_region ?_
              refine p_mv rfl rfl ?_
              refine p_lda ta_31 rfl (by exact (Tk.all rfl)) rfl ?_
              refine p_callc cf_16 (.c rfl (.c rfl .n)) rfl (clerk_Answer _ b28 k hK m) ?_
              refine p_mv rfl rfl ?_
              refine p_ext rfl rfl rfl ?_
              refine p_ext rfl rfl rfl ?_
              refine p_alloc zr_31 rfl fun b16 => ?_
              refine p_store (.ofA ta_31) rfl rfl rfl (by first | rfl | exact rfl) (by first | rfl | exact (by first | rfl | simp [vI, Value.oneCell'])) (Ins.whole (by first | rfl | (simp only [List.length_map, List.length_cons, List.length_nil]; omega) | (simp [*]; done) | (simp [*]; rfl))) ?_
              refine p_as rfl rfl ?_
              refine o_keep (.c 0 rfl (.c 7 rfl (.c 8 rfl (.c 9 rfl (.c 11 rfl (.c 12 rfl (.c 13 rfl (.c 14 rfl (.c 15 rfl (.c 16 rfl (.c 17 rfl .n))))))))))) ?_
              refine r_seq ?_
              have hK2 := hK.ans m
              generalize hoe : ansK k m = ko at hK2 ⊢
              obtain ⟨k2, o⟩ := ko
              dsimp only at hK2 ⊢
              have hj1 := hK2.sh.holds_le
              have hj2 := hK2.sh.over_le
              have hj3 := hK2.l_le
              rcases sameCases k k2 with hc | ⟨hc, hh⟩ | ⟨hc, hh⟩
              · skip
                refine r_sel (clerkP b28 k2) ?_
                refine r_ex fun kb => ?_
                refine r_cat ?_
                refine r_sel (keepP kb k2) ?_
                refine r_ex2 fun sb lv => ?_
                refine r_cat ?_
                refine r_rd lv fun hrl => ?_
                refine r_plan _ [] mo (.c 0 rfl (.c 7 rfl (.c 8 rfl (.c 9 rfl (.c 11 rfl (.c 12 rfl (.c 13 rfl (.c 14 rfl (.c 15 rfl (.c 16 rfl (.c 17 rfl .n))))))))))) Ent.rfl ?_
                refine qm_q (i := 0) (l := [.k 11]) rfl rfl rfl rfl (by kernel_rfl) rfl (fun He => RV.rq (q_lda ta_36 (.n rfl) rfl rfl (fun _ => rfl) (by exact (Tk.all rfl)))) ?_
                refine qm_q (i := 1) (l := [.k 9]) rfl rfl rfl rfl (by kernel_rfl) rfl (fun He => PV.rq (pv_mv (.n rfl) rfl rfl (fun _ => rfl))) ?_
                refine qm_q (i := 2) (l := [.o 1]) rfl rfl rfl rfl (by kernel_rfl) rfl (fun He => PV.rq (pv_nilp (.n rfl) rfl rfl (fun _ => rfl))) ?_
                refine qm_q (i := 3) (l := [.o 2]) rfl rfl rfl rfl (by kernel_rfl) rfl (fun He => PV.rq (pv_fa fa_40_0 (.n rfl) rfl rfl (fun _ => rfl))) ?_
                refine qm_q (i := 4) (l := [.o 3]) rfl rfl rfl rfl (by kernel_rfl) rfl (fun He => RV.rq (q_ldc tc_38 (.n rfl) rfl rfl (fun _ => rfl) (by rfl))) ?_
                refine qm_q (i := 5) (l := [.o 4]) rfl rfl rfl rfl (by kernel_rfl) rfl (fun He => PV.rq (pv_nilp (.n rfl) rfl rfl (fun _ => rfl))) ?_
                refine qm_q (i := 6) (l := [.o 5]) rfl rfl rfl rfl (by kernel_rfl) rfl (fun He => PV.rq (pv_fa fa_44_0 (.n rfl) rfl rfl (fun _ => rfl))) ?_
                refine qm_q (i := 7) (l := [.o 6]) rfl rfl rfl rfl (by kernel_rfl) rfl (fun He => RV.rq (q_ldc tc_41 (.n rfl) rfl rfl (fun _ => rfl) (by rfl))) ?_
                refine qm_q (i := 8) (l := [.o 7]) rfl rfl rfl rfl (by kernel_rfl) rfl (fun He => rq_call cf_17 (.n rfl) rfl (.c rfl (fun _ => rfl) .n) (fun hg => (shop_Counts _ sb k2.shop).q)) ?_
                refine qm_q (i := 9) (l := [.o 0, .o 8]) rfl rfl rfl rfl (by kernel_rfl) rfl (fun He => PV.rq (pv_to (pv_aeq eq_Cnts (.n rfl) rfl rfl rfl (fun _ => ⟨rfl, rfl⟩)) (show _ = Value.bool false by simp [hc]))) ?_
                refine qm_q (i := 10) (l := [.o 9]) rfl rfl rfl rfl (by kernel_rfl) rfl (fun He => PV.rq (pv_mv (.n rfl) rfl rfl (fun _ => rfl))) ?_
                refine qm_q (i := 11) (l := [.k 12, .o 10]) rfl rfl rfl rfl (by kernel_rfl) rfl (fun He => rq_no (v := .bool false) (.s rfl rfl rfl) rfl) ?_
                refine qm_q (i := 12) (l := [.k 9, .o 10]) rfl rfl rfl rfl (by kernel_rfl) rfl (fun He => rq_no (v := .bool false) (.s rfl rfl rfl) rfl) ?_
                refine qm_q (i := 13) (l := [.o 12, .o 10]) rfl rfl rfl rfl (by kernel_rfl) rfl (fun He => rq_no (v := .bool false) (.s rfl rfl rfl) rfl) ?_
                refine qm_q (i := 14) (l := [.o 13, .o 10]) rfl rfl rfl rfl (by kernel_rfl) rfl (fun He => rq_no (v := .bool false) (.s rfl rfl rfl) rfl) ?_
                refine qm_q (i := 15) (l := [.o 14, .o 10]) rfl rfl rfl rfl (by kernel_rfl) rfl (fun He => rq_no (v := .bool false) (.s rfl rfl rfl) rfl) ?_
                refine qm_q (i := 16) (l := [.o 15, .o 10]) rfl rfl rfl rfl (by kernel_rfl) rfl (fun He => rq_no (v := .bool false) (.s rfl rfl rfl) rfl) ?_
                refine qm_q (i := 17) (l := [.o 16, .o 10]) rfl rfl rfl rfl (by kernel_rfl) rfl (fun He => rq_no (v := .bool false) (.s rfl rfl rfl) rfl) ?_
                refine qm_q (i := 18) (l := [.o 17, .o 10]) rfl rfl rfl rfl (by kernel_rfl) rfl (fun He => rq_no (v := .bool false) (.s rfl rfl rfl) rfl) ?_
                refine qm_q (i := 19) (l := [.o 18, .o 10]) rfl rfl rfl rfl (by kernel_rfl) rfl (fun He => rq_no (v := .bool false) (.s rfl rfl rfl) rfl) ?_
                refine qm_q (i := 20) (l := [.o 11, .o 19, .o 10]) rfl rfl rfl rfl (by kernel_rfl) rfl (fun He => rq_no (v := .bool false) (.s rfl rfl rfl) rfl) ?_
                refine qm_q (i := 21) (l := [.o 10, .o 20]) rfl rfl rfl rfl (by kernel_rfl) rfl (fun He => PV.rq (pv_andf (.n rfl) rfl rfl (fun _ => rfl))) ?_
                refine qm_q (i := 22) (l := [.o 21]) rfl rfl rfl rfl (by kernel_rfl) rfl (fun He => PV.rq (pv_mv (.n rfl) rfl rfl (fun _ => rfl))) ?_
                refine qm_q (i := 23) (l := [.k 13, .o 22]) rfl rfl rfl rfl (by kernel_rfl) rfl (fun He => rq_no (v := .bool false) (.s rfl rfl rfl) rfl) ?_
                refine qm_q (i := 24) (l := [.k 9, .o 22]) rfl rfl rfl rfl (by kernel_rfl) rfl (fun He => rq_no (v := .bool false) (.s rfl rfl rfl) rfl) ?_
                refine qm_q (i := 25) (l := [.o 24, .o 22]) rfl rfl rfl rfl (by kernel_rfl) rfl (fun He => rq_no (v := .bool false) (.s rfl rfl rfl) rfl) ?_
                refine qm_q (i := 26) (l := [.o 25, .o 22]) rfl rfl rfl rfl (by kernel_rfl) rfl (fun He => rq_no (v := .bool false) (.s rfl rfl rfl) rfl) ?_
                refine qm_q (i := 27) (l := [.o 26, .o 22]) rfl rfl rfl rfl (by kernel_rfl) rfl (fun He => rq_no (v := .bool false) (.s rfl rfl rfl) rfl) ?_
                refine qm_q (i := 28) (l := [.o 27, .o 22]) rfl rfl rfl rfl (by kernel_rfl) rfl (fun He => rq_no (v := .bool false) (.s rfl rfl rfl) rfl) ?_
                refine qm_q (i := 29) (l := [.o 23, .o 28, .o 22]) rfl rfl rfl rfl (by kernel_rfl) rfl (fun He => rq_no (v := .bool false) (.s rfl rfl rfl) rfl) ?_
                refine qm_q (i := 30) (l := [.o 22, .o 29]) rfl rfl rfl rfl (by kernel_rfl) rfl (fun He => PV.rq (pv_andf (.n rfl) rfl rfl (fun _ => rfl))) ?_
                refine qm_q (i := 31) (l := [.o 30]) rfl rfl rfl rfl (by kernel_rfl) rfl (fun He => PV.rq (pv_as (.n rfl) rfl rfl (fun _ => rfl))) ?_
                refine qm_n (by kernel_rfl) (by kernel_rfl) (by kernel_rfl) (by kernel_rfl) (.c 0 rfl (.c 7 rfl (.c 8 rfl (.c 9 rfl (.c 12 rfl (.c 14 rfl (.c 15 rfl (.c 16 rfl (.c 17 rfl (.c 18 rfl .n)))))))))) ?_
                refine r_seq ?_
                refine r_seq ?_
                refine r_region ?_
                refine p_fa fa_31_2 rfl rfl ?_
                refine p_ldc tc_3 rfl (by rfl) rfl ?_
                refine p_mv rfl rfl ?_
                refine p_neq rfl rfl rfl ?_
                refine p_mv rfl rfl ?_
                refine l_op (x_p (pv_fa fa_31_0 (.s rfl rfl rfl) rfl rfl (by first | exact fun _ => rfl | exact id | exact fun h => (Bool.and_eq_true_iff.1 h).1 | simp_all)) rfl rfl ?_)
                refine l_op (x_r (q_ldc tc_3 (.s rfl rfl rfl) rfl rfl (by first | exact fun _ => rfl | exact id | exact fun h => (Bool.and_eq_true_iff.1 h).1 | simp_all) (by rfl)) rfl rfl ?_)
                refine l_op (x_p (pv_neq (.s rfl rfl rfl) rfl rfl rfl (by refine fun h => ⟨?_, ?_⟩ <;> first | rfl | exact h | exact (Bool.and_eq_true_iff.1 h).1 | simp_all)) rfl rfl ?_)
                refine l_op (x_p (pv_mv (.s rfl rfl rfl) rfl rfl (by first | exact fun _ => rfl | exact id | exact fun h => (Bool.and_eq_true_iff.1 h).1 | simp_all)) rfl rfl ?_)
                refine l_op (x_p (pv_fa fa_31_0 (.s rfl rfl rfl) rfl rfl (by first | exact fun _ => rfl | exact id | exact fun h => (Bool.and_eq_true_iff.1 h).1 | simp_all)) rfl rfl ?_)
                refine l_op (x_r (q_ldc tc_3 (.s rfl rfl rfl) rfl rfl (by first | exact fun _ => rfl | exact id | exact fun h => (Bool.and_eq_true_iff.1 h).1 | simp_all) (by rfl)) rfl rfl ?_)
                refine l_op (x_p (pv_neq (.s rfl rfl rfl) rfl rfl rfl (by refine fun h => ⟨?_, ?_⟩ <;> first | rfl | exact h | exact (Bool.and_eq_true_iff.1 h).1 | simp_all)) rfl rfl ?_)
                refine l_op (x_p (pv_and (.s rfl rfl rfl) rfl rfl rfl (by intro hg; refine ⟨?_, fun hc => ?_⟩ <;> first | rfl | (rw [hc]; rfl) | simp_all)) rfl rfl ?_)
                refine l_op (x_p (pv_or (.n rfl) rfl rfl rfl (fun _ => ⟨rfl, fun hc => by first | rfl | (rw [hc]; rfl) | simp_all⟩)) rfl rfl ?_)
                refine p_mv rfl rfl ?_
                refine l_op (x_p (pv_fa fa_31_0 (.s rfl rfl rfl) rfl rfl (by first | exact fun _ => rfl | exact id | exact fun h => (Bool.and_eq_true_iff.1 h).1 | simp_all)) rfl rfl ?_)
                refine l_op (x_r (q_ldc tc_3 (.s rfl rfl rfl) rfl rfl (by first | exact fun _ => rfl | exact id | exact fun h => (Bool.and_eq_true_iff.1 h).1 | simp_all) (by rfl)) rfl rfl ?_)
                refine l_op (x_p (pv_eql (.s rfl rfl rfl) rfl rfl rfl (by refine fun h => ⟨?_, ?_⟩ <;> first | rfl | exact h | exact (Bool.and_eq_true_iff.1 h).1 | simp_all)) rfl rfl ?_)
                refine l_op (x_p (pv_mv (.s rfl rfl rfl) rfl rfl (by first | exact fun _ => rfl | exact id | exact fun h => (Bool.and_eq_true_iff.1 h).1 | simp_all)) rfl rfl ?_)
                refine l_op (x_p (pv_mv (.s rfl rfl rfl) rfl rfl (by first | exact fun _ => rfl | exact id | exact fun h => (Bool.and_eq_true_iff.1 h).1 | simp_all)) rfl rfl ?_)
                refine l_op (x_p (pv_and (.s rfl rfl rfl) rfl rfl rfl (by intro hg; refine ⟨?_, fun hc => ?_⟩ <;> first | rfl | (rw [hc]; rfl) | simp_all)) rfl rfl ?_)
                refine l_op (x_p (pv_mv (.s rfl rfl rfl) rfl rfl (by first | exact fun _ => rfl | exact id | exact fun h => (Bool.and_eq_true_iff.1 h).1 | simp_all)) rfl rfl ?_)
                refine l_op (x_p (pv_mv (.s rfl rfl rfl) rfl rfl (by first | exact fun _ => rfl | exact id | exact fun h => (Bool.and_eq_true_iff.1 h).1 | simp_all)) rfl rfl ?_)
                refine l_op (x_p (pv_fa fa_31_4 (.s rfl rfl rfl) rfl rfl (by first | exact fun _ => rfl | exact id | exact fun h => (Bool.and_eq_true_iff.1 h).1 | simp_all)) rfl rfl ?_)
                refine l_op (x_r (q_ldc tc_4 (.s rfl rfl rfl) rfl rfl (by first | exact fun _ => rfl | exact id | exact fun h => (Bool.and_eq_true_iff.1 h).1 | simp_all) (by rfl)) rfl rfl ?_)
                refine l_op (x_p (pv_bne Try.underlying4 (.s rfl rfl rfl) rfl rfl rfl (by refine fun h => ⟨?_, ?_⟩ <;> first | rfl | exact h | exact (Bool.and_eq_true_iff.1 h).1 | simp_all)) rfl rfl ?_)
                refine l_op (x_p (pv_and (.s rfl rfl rfl) rfl rfl rfl (by intro hg; refine ⟨?_, fun hc => ?_⟩ <;> first | rfl | (rw [hc]; rfl) | simp_all)) rfl rfl ?_)
                refine l_op (x_p (pv_or (.n rfl) rfl rfl rfl (fun _ => ⟨rfl, fun hc => by first | rfl | (rw [hc]; rfl) | simp_all⟩)) rfl rfl ?_)
                refine o_keep (.c 7 rfl (.c 8 rfl (.c 9 rfl (.c 12 rfl (.c 14 rfl (.c 16 rfl (.c 17 rfl (.c 18 rfl (.c 141 rfl .n))))))))) ?_
                refine r_cond _ rfl (fun h6 => ?_) (fun h6 => ?_)
                · exfalso; have hC := others_yes hkn h6; rw [hC] at hoe; cases hoe; exact hc ⟨rfl, rfl⟩
                · skip
                  have hN := others_no hkn h6
                  refine r_skip ?_
                  refine r_seq ?_
                  refine r_seq ?_
                  refine r_region ?_
                  refine p_fa fa_31_0 rfl rfl ?_
                  refine p_ldc tc_3 rfl (by rfl) rfl ?_
                  refine p_neq rfl rfl rfl ?_
                  refine o_keep (.c 7 rfl (.c 8 rfl (.c 9 rfl (.c 12 rfl (.c 14 rfl (.c 16 rfl (.c 17 rfl (.c 18 rfl (.c 154 rfl .n))))))))) ?_
                  refine r_cond _ rfl (fun h7 => ?_) (fun h7 => ?_)
                  · skip
                    refine r_seq ?_
                    refine r_region ?_
                    refine p_as rfl rfl ?_
                    refine o_keep (.c 7 rfl (.c 8 rfl (.c 9 rfl (.c 12 rfl (.c 14 rfl (.c 16 rfl (.c 17 rfl (.c 18 rfl .n)))))))) ?_
                    refine r_retv hF rfl (.c (.t rfl) .n) ?_ ?_
                    · first | exact Ent.rfl | (repeat (first | exact Ent.rfl | refine Ent.c (SelB.ent) ?_ | refine Ent.c (SelS.ent) ?_ | refine Ent.cN ?_ | refine Ent.c (SelX.ent) ?_ | refine Ent.dropR ?_))
                    · first | rfl | (refine bool_eq ?_; simp; done) | (refine bool_eq ?_; simp [hH2, ha5]; done) | (refine bool_eq ?_; simp_all)
                  · skip
                    have hk1 : m.kind = 1 := by simpa using h7
                    obtain ⟨a, ha1, ha2, ha3⟩ := ansK_ask (k := k) (hN.trans hkn.symm) hk1
                    rw [hoe] at ha1 ha2 ha3
                    dsimp only at ha1 ha2 ha3
                    subst ha1
                    refine r_skip ?_
                    refine r_seq ?_
                    refine r_seq ?_
                    refine r_region ?_
                    refine p_mv rfl rfl ?_
                    refine p_not rfl rfl ?_
                    refine p_mv rfl rfl ?_
                    refine l_op (x_p (pv_fa fa_31_4 (.s rfl rfl rfl) rfl rfl (by first | exact fun _ => rfl | exact id | exact fun h => (Bool.and_eq_true_iff.1 h).1 | simp_all)) rfl rfl ?_)
                    refine l_op (x_r (q_ldc tc_4 (.s rfl rfl rfl) rfl rfl (by first | exact fun _ => rfl | exact id | exact fun h => (Bool.and_eq_true_iff.1 h).1 | simp_all) (by rfl)) rfl rfl ?_)
                    refine l_op (x_p (pv_not (.s rfl rfl rfl) rfl rfl (by first | exact fun _ => rfl | exact id | exact fun h => (Bool.and_eq_true_iff.1 h).1 | simp_all)) rfl rfl ?_)
                    refine l_op (x_p (pv_or (.n rfl) rfl rfl rfl (fun _ => ⟨rfl, fun hc => by first | rfl | (rw [hc]; rfl) | simp_all⟩)) rfl rfl ?_)
                    refine o_keep (.c 7 rfl (.c 8 rfl (.c 9 rfl (.c 12 rfl (.c 14 rfl (.c 17 rfl (.c 18 rfl (.c 161 rfl .n)))))))) ?_
                    refine r_cond _ rfl (fun h8 => ?_) (fun h8 => ?_)
                    · exfalso; have hy : a.yes = false := (by simpa using h8); have hke := ha2 hy; subst hke; exact hc ⟨rfl, rfl⟩
                    · skip
                      have hy : a.yes = true := by simpa using h8
                      obtain ⟨ha4, ha5⟩ := ha3 hy
                      refine r_skip ?_
                      refine r_seq ?_
                      refine r_region ?_
                      refine p_as rfl rfl ?_
                      refine o_keep (.c 7 rfl (.c 8 rfl (.c 9 rfl (.c 12 rfl (.c 14 rfl (.c 19 rfl .n)))))) ?_
                      refine r_seq ?_
                      refine r_region ?_
                      refine p_mv rfl rfl ?_
                      refine p_nil rfl rfl ?_
                      refine p_fa fa_40_0 rfl rfl ?_
                      refine p_ldc tc_38 rfl (by rfl) rfl ?_
                      refine p_nil rfl rfl ?_
                      refine p_fa fa_44_0 rfl rfl ?_
                      refine p_ldc tc_41 rfl (by rfl) rfl ?_
                      refine p_calle cf_18 (.c rfl .n) rfl (shop_Holds _ sb k2.shop (by omega) (by omega)) fun hv2 => ?_
                      refine o_cat ?_
                      refine o_rd hv2 fun hr2 => ?_
                      refine p_as rfl rfl ?_
                      refine o_keep (.c 7 rfl (.c 8 rfl (.c 12 rfl (.c 14 rfl (.c 19 rfl .n))))) ?_
                      refine r_seq ?_
                      refine r_seq ?_
                      refine r_region ?_
                      refine p_as rfl rfl ?_
                      refine o_keep (.c 7 rfl (.c 8 rfl (.c 12 rfl (.c 14 rfl (.c 19 rfl (.c 20 rfl .n)))))) ?_
                      refine r_block ?_
                      refine r_loop_2 (fun (j : Nat) (hit : Bool) => [(20, true, .int .i64 (j : Int)), (19, true, .bool hit)]) (.c 7 rfl (.c 8 rfl (.c 12 rfl (.c 14 rfl .n)))) (fun (j : Nat) (hit : Bool) => sl hv2 54 3 (k2.shop.holds.map rH) :: blk b7 (rM m) 31 :: H) (fun (j : Nat) (hit : Bool) => j ≤ k2.shop.holds.length ∧ hit = (k2.shop.holds.take j).any fun x => decide (x = (⟨m.deal, m.ctr, m.dl⟩ : Hld))) (fun (j : Nat) (hit : Bool) => k2.shop.holds.length - j) (0) (false) ?_ (.c 20 rfl (.c 19 rfl .n)) ?_ (fun j hit hI => ?_)
                      · exact ⟨Nat.zero_le _, by simp⟩
                      · first | exact Ent.rfl | (repeat (first | exact Ent.rfl | refine Ent.c (SelB.ent) ?_ | refine Ent.c (SelS.ent) ?_ | refine Ent.cN ?_ | refine Ent.c (SelX.ent) ?_ | refine Ent.dropR ?_))
                      · skip
                        obtain ⟨hjl0, hH⟩ := hI
                        refine r_seq ?_
                        refine r_seq ?_
                        refine r_region ?_
                        refine p_mv rfl rfl ?_
                        refine p_mv rfl rfl ?_
                        refine l_op (x_p (pv_lens (Rd.len hr2) ⟨_, Try.underlying45⟩ (.n rfl) rfl rfl rfl rfl (fun _ => rfl)) rfl rfl ?_)
                        refine p_lss rfl rfl rfl ?_
                        refine o_keep (.c 7 rfl (.c 8 rfl (.c 12 rfl (.c 14 rfl (.c 19 rfl (.c 20 rfl (.c 177 rfl .n))))))) ?_
                        refine r_cond _ rfl (fun h9 => ?_) (fun h9 => ?_)
                        · skip
                          obtain ⟨x, hx⟩ := getlt (l := k2.shop.holds) (i := j) (by have := of_decide_eq_true h9; omega)
                          have hil3 := (List.getElem?_eq_some_iff.1 hx).1
                          refine r_skip ?_
                          refine r_seq ?_
                          refine r_block ?_
                          refine r_plan _ [] mo (.c 7 rfl (.c 8 rfl (.c 12 rfl (.c 14 rfl (.c 19 rfl (.c 20 rfl .n)))))) Ent.rfl ?_
                          refine qm_q (i := 0) (l := [.k 19]) rfl rfl rfl rfl (by kernel_rfl) rfl (fun He => PV.rq (pv_mv (.n rfl) rfl rfl (fun _ => rfl))) ?_
                          refine qm_q (i := 1) (l := [.o 0]) rfl rfl rfl rfl (by kernel_rfl) rfl (fun He => PV.rq (pv_mv (.n rfl) rfl rfl (fun _ => rfl))) ?_
                          refine qm_q (i := 2) (l := [.k 12, .o 1]) rfl rfl rfl rfl (by kernel_rfl) rfl (fun He => PV.rq (pv_mv (.s rfl rfl rfl) rfl rfl (by first | exact fun _ => rfl | exact id | exact fun h => (Bool.and_eq_true_iff.1 h).1 | simp_all))) ?_
                          refine qm_q (i := 3) (l := [.k 20, .o 1]) rfl rfl rfl rfl (by kernel_rfl) rfl (fun He => PV.rq (pv_mv (.s rfl rfl rfl) rfl rfl (by first | exact fun _ => rfl | exact id | exact fun h => (Bool.and_eq_true_iff.1 h).1 | simp_all))) ?_
                          refine qm_q (i := 4) (l := [.o 2, .o 3, .o 1]) rfl rfl rfl rfl (by kernel_rfl) rfl (fun He => PV.rq (pv_idx Try.underlying45 (.ofA ta_54) hr2 (fun hg => ⟨rfl, (mapget hx)⟩) (.s rfl rfl rfl) rfl rfl rfl (by refine fun h => ⟨?_, ?_⟩ <;> first | rfl | exact h | exact (Bool.and_eq_true_iff.1 h).1 | simp_all))) ?_
                          refine qm_q (i := 5) (l := [.o 4, .o 1]) rfl rfl rfl rfl (by kernel_rfl) rfl (fun He => RV.rq (rv_ldats (j := 0) ta_54 (Rd.ent hr2 (by repeat (first | exact Ent.rfl | exact Ent.one Ent.h | exact Ent.one (SelS.ent) | exact Ent.nil | exact Ent.left | refine Ent.dropR ?_ | refine Ent.tr Ent.skip ?_))) (fun hg => (mapget hx)) (.s rfl rfl rfl) rfl rfl (by first | exact fun _ => rfl | exact id | exact fun h => (Bool.and_eq_true_iff.1 h).1 | simp_all) rfl (.s (.s (.s .z))))) ?_
                          refine qm_q (i := 6) (l := [.k 7, .o 1]) rfl rfl rfl rfl (by kernel_rfl) rfl (fun He => PV.rq (pv_fa fa_31_1 (.s rfl rfl rfl) rfl rfl (by first | exact fun _ => rfl | exact id | exact fun h => (Bool.and_eq_true_iff.1 h).1 | simp_all))) ?_
                          refine qm_q (i := 7) (l := [.o 6, .o 1]) rfl rfl rfl rfl (by kernel_rfl) rfl (fun He => RV.rq (q_ldc tc_3 (.s rfl rfl rfl) rfl rfl (by first | exact fun _ => rfl | exact id | exact fun h => (Bool.and_eq_true_iff.1 h).1 | simp_all) (by rfl))) ?_
                          refine qm_q (i := 8) (l := [.k 7, .o 1]) rfl rfl rfl rfl (by kernel_rfl) rfl (fun He => PV.rq (pv_fa fa_31_3 (.s rfl rfl rfl) rfl rfl (by first | exact fun _ => rfl | exact id | exact fun h => (Bool.and_eq_true_iff.1 h).1 | simp_all))) ?_
                          refine qm_q (i := 9) (l := [.o 8, .o 1]) rfl rfl rfl rfl (by kernel_rfl) rfl (fun He => PV.rq (pv_fa fa_29_0 (.s rfl rfl rfl) rfl rfl (by first | exact fun _ => rfl | exact id | exact fun h => (Bool.and_eq_true_iff.1 h).1 | simp_all))) ?_
                          refine qm_q (i := 10) (l := [.o 9, .o 1]) rfl rfl rfl rfl (by kernel_rfl) rfl (fun He => RV.rq (q_ldc tc_3 (.s rfl rfl rfl) rfl rfl (by first | exact fun _ => rfl | exact id | exact fun h => (Bool.and_eq_true_iff.1 h).1 | simp_all) (by rfl))) ?_
                          refine qm_q (i := 11) (l := [.k 7, .o 1]) rfl rfl rfl rfl (by kernel_rfl) rfl (fun He => PV.rq (pv_fa fa_31_3 (.s rfl rfl rfl) rfl rfl (by first | exact fun _ => rfl | exact id | exact fun h => (Bool.and_eq_true_iff.1 h).1 | simp_all))) ?_
                          refine qm_q (i := 12) (l := [.o 11, .o 1]) rfl rfl rfl rfl (by kernel_rfl) rfl (fun He => PV.rq (pv_fa fa_29_1 (.s rfl rfl rfl) rfl rfl (by first | exact fun _ => rfl | exact id | exact fun h => (Bool.and_eq_true_iff.1 h).1 | simp_all))) ?_
                          refine qm_q (i := 13) (l := [.o 12, .o 1]) rfl rfl rfl rfl (by kernel_rfl) rfl (fun He => RV.rq (q_ldc tc_3 (.s rfl rfl rfl) rfl rfl (by first | exact fun _ => rfl | exact id | exact fun h => (Bool.and_eq_true_iff.1 h).1 | simp_all) (by rfl))) ?_
                          refine qm_q (i := 14) (l := [.o 7, .o 10, .o 13, .o 1]) rfl rfl rfl rfl (by kernel_rfl) rfl (fun He => PV.rq (pv_build zr_54 pl_54 (.s rfl rfl rfl) rfl (.c rfl (by first | exact fun _ => rfl | exact id | exact fun h => (Bool.and_eq_true_iff.1 h).1 | simp_all) rfl rfl rfl (by repeat constructor) (.c rfl (by first | exact fun _ => rfl | exact id | exact fun h => (Bool.and_eq_true_iff.1 h).1 | simp_all) rfl rfl rfl (by repeat constructor) (.c rfl (by first | exact fun _ => rfl | exact id | exact fun h => (Bool.and_eq_true_iff.1 h).1 | simp_all) rfl rfl rfl (by repeat constructor) .n))))) ?_
                          refine qm_q (i := 15) (l := [.o 5, .o 14, .o 1]) rfl rfl rfl rfl (by kernel_rfl) rfl (fun He => PV.rq (pv_aeq (eq_Hold (n := (⟨m.deal, m.ctr, m.dl⟩ : Hld))) (.s rfl rfl rfl) rfl rfl rfl (by refine fun h => ⟨?_, ?_⟩ <;> first | rfl | exact h | exact (Bool.and_eq_true_iff.1 h).1 | simp_all))) ?_
                          refine qm_q (i := 16) (l := [.o 1, .o 15]) rfl rfl rfl rfl (by kernel_rfl) rfl (fun He => PV.rq (pv_or (.n rfl) rfl rfl rfl (fun _ => ⟨rfl, fun hc => by first | rfl | (rw [hc]; rfl) | simp_all⟩))) ?_
                          refine qm_q (i := 17) (l := [.o 16]) rfl rfl rfl rfl (by kernel_rfl) rfl (fun He => PV.rq (pv_as (.n rfl) rfl rfl (fun _ => rfl))) ?_
                          refine qm_n (by kernel_rfl) (by kernel_rfl) (by kernel_rfl) (by kernel_rfl) (.c 7 rfl (.c 8 rfl (.c 12 rfl (.c 14 rfl (.c 19 rfl (.c 20 rfl .n)))))) ?_
                          refine r_end ?_
                          refine r_region ?_
                          refine p_mv rfl rfl ?_
                          refine p_add rfl rfl (by omega) rfl ?_
                          refine p_as rfl rfl ?_
                          refine o_keep (.c 7 rfl (.c 8 rfl (.c 12 rfl (.c 14 rfl (.c 19 rfl (.c 20 rfl .n)))))) ?_
                          refine r_back_2 (j + 1) (_) ?_ ?_ (Keep.app (.c 20 rfl (.c 19 rfl .n)) (.c 7 rfl (.c 8 rfl (.c 12 rfl (.c 14 rfl .n))))) ?_
                          · exact ⟨by omega, by rw [any_take hx, hH]⟩
                          · omega
                          · first | exact Ent.rfl | (repeat (first | exact Ent.rfl | refine Ent.c (SelB.ent) ?_ | refine Ent.c (SelS.ent) ?_ | refine Ent.cN ?_ | refine Ent.c (SelX.ent) ?_ | refine Ent.dropR ?_))
                        · skip
                          have hjl : k2.shop.holds.length ≤ j := by have := of_decide_eq_false h9; omega
                          rw [List.take_of_length_le hjl] at hH
                          have hH2 : hit = true := by rw [hH, List.any_eq_true]; exact ⟨_, ha4, by simp⟩
                          refine r_exit rfl ?_
                          refine r_seq ?_
                          refine r_region ?_
                          refine p_mv rfl rfl ?_
                          refine p_mv rfl rfl ?_
                          refine l_op (x_p (pv_mv (.s rfl rfl rfl) rfl rfl (by first | exact fun _ => rfl | exact id | exact fun h => (Bool.and_eq_true_iff.1 h).1 | simp_all)) rfl rfl ?_)
                          refine l_op (x_p (pv_not (.s rfl rfl rfl) rfl rfl (by first | exact fun _ => rfl | exact id | exact fun h => (Bool.and_eq_true_iff.1 h).1 | simp_all)) rfl rfl ?_)
                          refine l_op (x_p (pv_and (.n rfl) rfl rfl rfl (fun _ => ⟨rfl, fun hc => by first | rfl | (rw [hc]; rfl) | simp_all⟩)) rfl rfl ?_)
                          refine p_as rfl rfl ?_
                          refine o_keep (.c 8 rfl .n) ?_
                          refine r_retv hF rfl (.c (.t rfl) .n) ?_ ?_
                          · first | exact Ent.rfl | (repeat (first | exact Ent.rfl | refine Ent.c (SelB.ent) ?_ | refine Ent.c (SelS.ent) ?_ | refine Ent.cN ?_ | refine Ent.c (SelX.ent) ?_ | refine Ent.dropR ?_))
                          · first | rfl | (refine bool_eq ?_; simp; done) | (refine bool_eq ?_; simp [hH2, ha5]; done) | (refine bool_eq ?_; simp_all)
              · skip
                refine r_sel (clerkP b28 k2) ?_
                refine r_ex fun kb => ?_
                refine r_cat ?_
                refine r_sel (keepP kb k2) ?_
                refine r_ex2 fun sb lv => ?_
                refine r_cat ?_
                refine r_rd lv fun hrl => ?_
                refine r_plan _ [] mo (.c 0 rfl (.c 7 rfl (.c 8 rfl (.c 9 rfl (.c 11 rfl (.c 12 rfl (.c 13 rfl (.c 14 rfl (.c 15 rfl (.c 16 rfl (.c 17 rfl .n))))))))))) Ent.rfl ?_
                refine qm_q (i := 0) (l := [.k 11]) rfl rfl rfl rfl (by kernel_rfl) rfl (fun He => RV.rq (q_lda ta_36 (.n rfl) rfl rfl (fun _ => rfl) (by exact (Tk.all rfl)))) ?_
                refine qm_q (i := 1) (l := [.k 9]) rfl rfl rfl rfl (by kernel_rfl) rfl (fun He => PV.rq (pv_mv (.n rfl) rfl rfl (fun _ => rfl))) ?_
                refine qm_q (i := 2) (l := [.o 1]) rfl rfl rfl rfl (by kernel_rfl) rfl (fun He => PV.rq (pv_nilp (.n rfl) rfl rfl (fun _ => rfl))) ?_
                refine qm_q (i := 3) (l := [.o 2]) rfl rfl rfl rfl (by kernel_rfl) rfl (fun He => PV.rq (pv_fa fa_40_0 (.n rfl) rfl rfl (fun _ => rfl))) ?_
                refine qm_q (i := 4) (l := [.o 3]) rfl rfl rfl rfl (by kernel_rfl) rfl (fun He => RV.rq (q_ldc tc_38 (.n rfl) rfl rfl (fun _ => rfl) (by rfl))) ?_
                refine qm_q (i := 5) (l := [.o 4]) rfl rfl rfl rfl (by kernel_rfl) rfl (fun He => PV.rq (pv_nilp (.n rfl) rfl rfl (fun _ => rfl))) ?_
                refine qm_q (i := 6) (l := [.o 5]) rfl rfl rfl rfl (by kernel_rfl) rfl (fun He => PV.rq (pv_fa fa_44_0 (.n rfl) rfl rfl (fun _ => rfl))) ?_
                refine qm_q (i := 7) (l := [.o 6]) rfl rfl rfl rfl (by kernel_rfl) rfl (fun He => RV.rq (q_ldc tc_41 (.n rfl) rfl rfl (fun _ => rfl) (by rfl))) ?_
                refine qm_q (i := 8) (l := [.o 7]) rfl rfl rfl rfl (by kernel_rfl) rfl (fun He => rq_call cf_17 (.n rfl) rfl (.c rfl (fun _ => rfl) .n) (fun hg => (shop_Counts _ sb k2.shop).q)) ?_
                refine qm_q (i := 9) (l := [.o 0, .o 8]) rfl rfl rfl rfl (by kernel_rfl) rfl (fun He => PV.rq (pv_to (pv_aeq eq_Cnts (.n rfl) rfl rfl rfl (fun _ => ⟨rfl, rfl⟩)) (show _ = Value.bool true by simp [hc]))) ?_
                refine qm_q (i := 10) (l := [.o 9]) rfl rfl rfl rfl (by kernel_rfl) rfl (fun He => PV.rq (pv_mv (.n rfl) rfl rfl (fun _ => rfl))) ?_
                refine qm_q (i := 11) (l := [.k 12, .o 10]) rfl rfl rfl rfl (by kernel_rfl) rfl (fun He => PV.rq (pv_ung (.s rfl rfl rfl) rfl (pv_mv (.n rfl) rfl rfl (fun _ => rfl)))) ?_
                refine qm_q (i := 12) (l := [.k 9, .o 10]) rfl rfl rfl rfl (by kernel_rfl) rfl (fun He => PV.rq (pv_ung (.s rfl rfl rfl) rfl (pv_mv (.n rfl) rfl rfl (fun _ => rfl)))) ?_
                refine qm_q (i := 13) (l := [.o 12, .o 10]) rfl rfl rfl rfl (by kernel_rfl) rfl (fun He => PV.rq (pv_ung (.s rfl rfl rfl) rfl (pv_nilp (.n rfl) rfl rfl (fun _ => rfl)))) ?_
                refine qm_q (i := 14) (l := [.o 13, .o 10]) rfl rfl rfl rfl (by kernel_rfl) rfl (fun He => PV.rq (pv_ung (.s rfl rfl rfl) rfl (pv_fa fa_40_0 (.n rfl) rfl rfl (fun _ => rfl)))) ?_
                refine qm_q (i := 15) (l := [.o 14, .o 10]) rfl rfl rfl rfl (by kernel_rfl) rfl (fun He => RV.rq (rv_ung (.s rfl rfl rfl) rfl (q_ldc tc_38 (.n rfl) rfl rfl (fun _ => rfl) (by rfl)))) ?_
                refine qm_q (i := 16) (l := [.o 15, .o 10]) rfl rfl rfl rfl (by kernel_rfl) rfl (fun He => PV.rq (pv_ung (.s rfl rfl rfl) rfl (pv_nilp (.n rfl) rfl rfl (fun _ => rfl)))) ?_
                refine qm_q (i := 17) (l := [.o 16, .o 10]) rfl rfl rfl rfl (by kernel_rfl) rfl (fun He => PV.rq (pv_ung (.s rfl rfl rfl) rfl (pv_fa fa_44_0 (.n rfl) rfl rfl (fun _ => rfl)))) ?_
                refine qm_q (i := 18) (l := [.o 17, .o 10]) rfl rfl rfl rfl (by kernel_rfl) rfl (fun He => RV.rq (rv_ung (.s rfl rfl rfl) rfl (q_ldc tc_41 (.n rfl) rfl rfl (fun _ => rfl) (by rfl)))) ?_
                refine qm_calln (i := 19) [.o 18, .o 10] (by kernel_rfl) (by kernel_rfl) rfl rfl rfl rfl (by kernel_rfl) (by kernel_rfl) ⟨_, .s rfl rfl rfl, rfl⟩ cf_18 rfl (.c rfl .n) (shop_HoldsN _ sb k2.shop (by omega) (by omega)) fun hv2 => ?_
                refine qm_cat ?_
                refine qm_rd hv2 fun hr2 => ?_
                refine qm_keep ?_
                refine qm_q (i := 20) (l := [.o 11, .o 19, .o 10]) rfl rfl rfl rfl (by kernel_rfl) rfl (fun He => rq_ung (.s rfl rfl rfl) rfl (rq_call cf_20 (.n rfl) rfl (.c rfl (fun _ => rfl) (.c rfl (fun _ => rfl) .n)) (fun hg => fnv_to (ref_SameHolds _ _ _ _ k.shop.holds k2.shop.holds hr1.own hr2.own (by omega)) (show _ = Value.bool false from bool_eq (by simp [hh]))))) ?_
                refine qm_q (i := 21) (l := [.o 10, .o 20]) rfl rfl rfl rfl (by kernel_rfl) rfl (fun He => PV.rq (pv_and (.n rfl) rfl rfl rfl (fun _ => ⟨rfl, fun hc => by first | rfl | (rw [hc]; rfl) | simp_all⟩))) ?_
                refine qm_q (i := 22) (l := [.o 21]) rfl rfl rfl rfl (by kernel_rfl) rfl (fun He => PV.rq (pv_mv (.n rfl) rfl rfl (fun _ => rfl))) ?_
                refine qm_q (i := 23) (l := [.k 13, .o 22]) rfl rfl rfl rfl (by kernel_rfl) rfl (fun He => rq_no (v := .bool false) (.s rfl rfl rfl) rfl) ?_
                refine qm_q (i := 24) (l := [.k 9, .o 22]) rfl rfl rfl rfl (by kernel_rfl) rfl (fun He => rq_no (v := .bool false) (.s rfl rfl rfl) rfl) ?_
                refine qm_q (i := 25) (l := [.o 24, .o 22]) rfl rfl rfl rfl (by kernel_rfl) rfl (fun He => rq_no (v := .bool false) (.s rfl rfl rfl) rfl) ?_
                refine qm_q (i := 26) (l := [.o 25, .o 22]) rfl rfl rfl rfl (by kernel_rfl) rfl (fun He => rq_no (v := .bool false) (.s rfl rfl rfl) rfl) ?_
                refine qm_q (i := 27) (l := [.o 26, .o 22]) rfl rfl rfl rfl (by kernel_rfl) rfl (fun He => rq_no (v := .bool false) (.s rfl rfl rfl) rfl) ?_
                refine qm_q (i := 28) (l := [.o 27, .o 22]) rfl rfl rfl rfl (by kernel_rfl) rfl (fun He => rq_no (v := .bool false) (.s rfl rfl rfl) rfl) ?_
                refine qm_q (i := 29) (l := [.o 23, .o 28, .o 22]) rfl rfl rfl rfl (by kernel_rfl) rfl (fun He => rq_no (v := .bool false) (.s rfl rfl rfl) rfl) ?_
                refine qm_q (i := 30) (l := [.o 22, .o 29]) rfl rfl rfl rfl (by kernel_rfl) rfl (fun He => PV.rq (pv_andf (.n rfl) rfl rfl (fun _ => rfl))) ?_
                refine qm_q (i := 31) (l := [.o 30]) rfl rfl rfl rfl (by kernel_rfl) rfl (fun He => PV.rq (pv_as (.n rfl) rfl rfl (fun _ => rfl))) ?_
                refine qm_n (by kernel_rfl) (by kernel_rfl) (by kernel_rfl) (by kernel_rfl) (.c 0 rfl (.c 7 rfl (.c 8 rfl (.c 9 rfl (.c 12 rfl (.c 14 rfl (.c 15 rfl (.c 16 rfl (.c 17 rfl (.c 18 rfl .n)))))))))) ?_
                refine r_seq ?_
                refine r_seq ?_
                refine r_region ?_
                refine p_fa fa_31_2 rfl rfl ?_
                refine p_ldc tc_3 rfl (by rfl) rfl ?_
                refine p_mv rfl rfl ?_
                refine p_neq rfl rfl rfl ?_
                refine p_mv rfl rfl ?_
                refine l_op (x_p (pv_fa fa_31_0 (.s rfl rfl rfl) rfl rfl (by first | exact fun _ => rfl | exact id | exact fun h => (Bool.and_eq_true_iff.1 h).1 | simp_all)) rfl rfl ?_)
                refine l_op (x_r (q_ldc tc_3 (.s rfl rfl rfl) rfl rfl (by first | exact fun _ => rfl | exact id | exact fun h => (Bool.and_eq_true_iff.1 h).1 | simp_all) (by rfl)) rfl rfl ?_)
                refine l_op (x_p (pv_neq (.s rfl rfl rfl) rfl rfl rfl (by refine fun h => ⟨?_, ?_⟩ <;> first | rfl | exact h | exact (Bool.and_eq_true_iff.1 h).1 | simp_all)) rfl rfl ?_)
                refine l_op (x_p (pv_mv (.s rfl rfl rfl) rfl rfl (by first | exact fun _ => rfl | exact id | exact fun h => (Bool.and_eq_true_iff.1 h).1 | simp_all)) rfl rfl ?_)
                refine l_op (x_p (pv_fa fa_31_0 (.s rfl rfl rfl) rfl rfl (by first | exact fun _ => rfl | exact id | exact fun h => (Bool.and_eq_true_iff.1 h).1 | simp_all)) rfl rfl ?_)
                refine l_op (x_r (q_ldc tc_3 (.s rfl rfl rfl) rfl rfl (by first | exact fun _ => rfl | exact id | exact fun h => (Bool.and_eq_true_iff.1 h).1 | simp_all) (by rfl)) rfl rfl ?_)
                refine l_op (x_p (pv_neq (.s rfl rfl rfl) rfl rfl rfl (by refine fun h => ⟨?_, ?_⟩ <;> first | rfl | exact h | exact (Bool.and_eq_true_iff.1 h).1 | simp_all)) rfl rfl ?_)
                refine l_op (x_p (pv_and (.s rfl rfl rfl) rfl rfl rfl (by intro hg; refine ⟨?_, fun hc => ?_⟩ <;> first | rfl | (rw [hc]; rfl) | simp_all)) rfl rfl ?_)
                refine l_op (x_p (pv_or (.n rfl) rfl rfl rfl (fun _ => ⟨rfl, fun hc => by first | rfl | (rw [hc]; rfl) | simp_all⟩)) rfl rfl ?_)
                refine p_mv rfl rfl ?_
                refine l_op (x_p (pv_fa fa_31_0 (.s rfl rfl rfl) rfl rfl (by first | exact fun _ => rfl | exact id | exact fun h => (Bool.and_eq_true_iff.1 h).1 | simp_all)) rfl rfl ?_)
                refine l_op (x_r (q_ldc tc_3 (.s rfl rfl rfl) rfl rfl (by first | exact fun _ => rfl | exact id | exact fun h => (Bool.and_eq_true_iff.1 h).1 | simp_all) (by rfl)) rfl rfl ?_)
                refine l_op (x_p (pv_eql (.s rfl rfl rfl) rfl rfl rfl (by refine fun h => ⟨?_, ?_⟩ <;> first | rfl | exact h | exact (Bool.and_eq_true_iff.1 h).1 | simp_all)) rfl rfl ?_)
                refine l_op (x_p (pv_mv (.s rfl rfl rfl) rfl rfl (by first | exact fun _ => rfl | exact id | exact fun h => (Bool.and_eq_true_iff.1 h).1 | simp_all)) rfl rfl ?_)
                refine l_op (x_p (pv_mv (.s rfl rfl rfl) rfl rfl (by first | exact fun _ => rfl | exact id | exact fun h => (Bool.and_eq_true_iff.1 h).1 | simp_all)) rfl rfl ?_)
                refine l_op (x_p (pv_and (.s rfl rfl rfl) rfl rfl rfl (by intro hg; refine ⟨?_, fun hc => ?_⟩ <;> first | rfl | (rw [hc]; rfl) | simp_all)) rfl rfl ?_)
                refine l_op (x_p (pv_mv (.s rfl rfl rfl) rfl rfl (by first | exact fun _ => rfl | exact id | exact fun h => (Bool.and_eq_true_iff.1 h).1 | simp_all)) rfl rfl ?_)
                refine l_op (x_p (pv_mv (.s rfl rfl rfl) rfl rfl (by first | exact fun _ => rfl | exact id | exact fun h => (Bool.and_eq_true_iff.1 h).1 | simp_all)) rfl rfl ?_)
                refine l_op (x_p (pv_fa fa_31_4 (.s rfl rfl rfl) rfl rfl (by first | exact fun _ => rfl | exact id | exact fun h => (Bool.and_eq_true_iff.1 h).1 | simp_all)) rfl rfl ?_)
                refine l_op (x_r (q_ldc tc_4 (.s rfl rfl rfl) rfl rfl (by first | exact fun _ => rfl | exact id | exact fun h => (Bool.and_eq_true_iff.1 h).1 | simp_all) (by rfl)) rfl rfl ?_)
                refine l_op (x_p (pv_bne Try.underlying4 (.s rfl rfl rfl) rfl rfl rfl (by refine fun h => ⟨?_, ?_⟩ <;> first | rfl | exact h | exact (Bool.and_eq_true_iff.1 h).1 | simp_all)) rfl rfl ?_)
                refine l_op (x_p (pv_and (.s rfl rfl rfl) rfl rfl rfl (by intro hg; refine ⟨?_, fun hc => ?_⟩ <;> first | rfl | (rw [hc]; rfl) | simp_all)) rfl rfl ?_)
                refine l_op (x_p (pv_or (.n rfl) rfl rfl rfl (fun _ => ⟨rfl, fun hc => by first | rfl | (rw [hc]; rfl) | simp_all⟩)) rfl rfl ?_)
                refine o_keep (.c 7 rfl (.c 8 rfl (.c 9 rfl (.c 12 rfl (.c 14 rfl (.c 16 rfl (.c 17 rfl (.c 18 rfl (.c 141 rfl .n))))))))) ?_
                refine r_cond _ rfl (fun h10 => ?_) (fun h10 => ?_)
                · exfalso; have hC := others_yes hkn h10; rw [hC] at hoe; cases hoe; exact hh rfl
                · skip
                  have hN := others_no hkn h10
                  refine r_skip ?_
                  refine r_seq ?_
                  refine r_seq ?_
                  refine r_region ?_
                  refine p_fa fa_31_0 rfl rfl ?_
                  refine p_ldc tc_3 rfl (by rfl) rfl ?_
                  refine p_neq rfl rfl rfl ?_
                  refine o_keep (.c 7 rfl (.c 8 rfl (.c 9 rfl (.c 12 rfl (.c 14 rfl (.c 16 rfl (.c 17 rfl (.c 18 rfl (.c 154 rfl .n))))))))) ?_
                  refine r_cond _ rfl (fun h11 => ?_) (fun h11 => ?_)
                  · skip
                    refine r_seq ?_
                    refine r_region ?_
                    refine p_as rfl rfl ?_
                    refine o_keep (.c 7 rfl (.c 8 rfl (.c 9 rfl (.c 12 rfl (.c 14 rfl (.c 16 rfl (.c 17 rfl (.c 18 rfl .n)))))))) ?_
                    refine r_retv hF rfl (.c (.t rfl) .n) ?_ ?_
                    · first | exact Ent.rfl | (repeat (first | exact Ent.rfl | refine Ent.c (SelB.ent) ?_ | refine Ent.c (SelS.ent) ?_ | refine Ent.cN ?_ | refine Ent.c (SelX.ent) ?_ | refine Ent.dropR ?_))
                    · first | rfl | (refine bool_eq ?_; simp; done) | (refine bool_eq ?_; simp [hH2, ha5]; done) | (refine bool_eq ?_; simp_all)
                  · skip
                    have hk1 : m.kind = 1 := by simpa using h11
                    obtain ⟨a, ha1, ha2, ha3⟩ := ansK_ask (k := k) (hN.trans hkn.symm) hk1
                    rw [hoe] at ha1 ha2 ha3
                    dsimp only at ha1 ha2 ha3
                    subst ha1
                    refine r_skip ?_
                    refine r_seq ?_
                    refine r_seq ?_
                    refine r_region ?_
                    refine p_mv rfl rfl ?_
                    refine p_not rfl rfl ?_
                    refine p_mv rfl rfl ?_
                    refine l_op (x_p (pv_fa fa_31_4 (.s rfl rfl rfl) rfl rfl (by first | exact fun _ => rfl | exact id | exact fun h => (Bool.and_eq_true_iff.1 h).1 | simp_all)) rfl rfl ?_)
                    refine l_op (x_r (q_ldc tc_4 (.s rfl rfl rfl) rfl rfl (by first | exact fun _ => rfl | exact id | exact fun h => (Bool.and_eq_true_iff.1 h).1 | simp_all) (by rfl)) rfl rfl ?_)
                    refine l_op (x_p (pv_not (.s rfl rfl rfl) rfl rfl (by first | exact fun _ => rfl | exact id | exact fun h => (Bool.and_eq_true_iff.1 h).1 | simp_all)) rfl rfl ?_)
                    refine l_op (x_p (pv_or (.n rfl) rfl rfl rfl (fun _ => ⟨rfl, fun hc => by first | rfl | (rw [hc]; rfl) | simp_all⟩)) rfl rfl ?_)
                    refine o_keep (.c 7 rfl (.c 8 rfl (.c 9 rfl (.c 12 rfl (.c 14 rfl (.c 17 rfl (.c 18 rfl (.c 161 rfl .n)))))))) ?_
                    refine r_cond _ rfl (fun h12 => ?_) (fun h12 => ?_)
                    · exfalso; have hy : a.yes = false := (by simpa using h12); have hke := ha2 hy; subst hke; exact hh rfl
                    · skip
                      have hy : a.yes = true := by simpa using h12
                      obtain ⟨ha4, ha5⟩ := ha3 hy
                      refine r_skip ?_
                      refine r_seq ?_
                      refine r_region ?_
                      refine p_as rfl rfl ?_
                      refine o_keep (.c 7 rfl (.c 8 rfl (.c 9 rfl (.c 12 rfl (.c 14 rfl (.c 19 rfl .n)))))) ?_
                      refine r_seq ?_
                      refine r_region ?_
                      refine p_mv rfl rfl ?_
                      refine p_nil rfl rfl ?_
                      refine p_fa fa_40_0 rfl rfl ?_
                      refine p_ldc tc_38 rfl (by rfl) rfl ?_
                      refine p_nil rfl rfl ?_
                      refine p_fa fa_44_0 rfl rfl ?_
                      refine p_ldc tc_41 rfl (by rfl) rfl ?_
                      refine p_calle cf_18 (.c rfl .n) rfl (shop_Holds _ sb k2.shop (by omega) (by omega)) fun hv2 => ?_
                      refine o_cat ?_
                      refine o_rd hv2 fun hr2 => ?_
                      refine p_as rfl rfl ?_
                      refine o_keep (.c 7 rfl (.c 8 rfl (.c 12 rfl (.c 14 rfl (.c 19 rfl .n))))) ?_
                      refine r_seq ?_
                      refine r_seq ?_
                      refine r_region ?_
                      refine p_as rfl rfl ?_
                      refine o_keep (.c 7 rfl (.c 8 rfl (.c 12 rfl (.c 14 rfl (.c 19 rfl (.c 20 rfl .n)))))) ?_
                      refine r_block ?_
                      refine r_loop_2 (fun (j : Nat) (hit : Bool) => [(20, true, .int .i64 (j : Int)), (19, true, .bool hit)]) (.c 7 rfl (.c 8 rfl (.c 12 rfl (.c 14 rfl .n)))) (fun (j : Nat) (hit : Bool) => sl hv2 54 3 (k2.shop.holds.map rH) :: blk b7 (rM m) 31 :: H) (fun (j : Nat) (hit : Bool) => j ≤ k2.shop.holds.length ∧ hit = (k2.shop.holds.take j).any fun x => decide (x = (⟨m.deal, m.ctr, m.dl⟩ : Hld))) (fun (j : Nat) (hit : Bool) => k2.shop.holds.length - j) (0) (false) ?_ (.c 20 rfl (.c 19 rfl .n)) ?_ (fun j hit hI => ?_)
                      · exact ⟨Nat.zero_le _, by simp⟩
                      · first | exact Ent.rfl | (repeat (first | exact Ent.rfl | refine Ent.c (SelB.ent) ?_ | refine Ent.c (SelS.ent) ?_ | refine Ent.cN ?_ | refine Ent.c (SelX.ent) ?_ | refine Ent.dropR ?_))
                      · skip
                        obtain ⟨hjl0, hH⟩ := hI
                        refine r_seq ?_
                        refine r_seq ?_
                        refine r_region ?_
                        refine p_mv rfl rfl ?_
                        refine p_mv rfl rfl ?_
                        refine l_op (x_p (pv_lens (Rd.len hr2) ⟨_, Try.underlying45⟩ (.n rfl) rfl rfl rfl rfl (fun _ => rfl)) rfl rfl ?_)
                        refine p_lss rfl rfl rfl ?_
                        refine o_keep (.c 7 rfl (.c 8 rfl (.c 12 rfl (.c 14 rfl (.c 19 rfl (.c 20 rfl (.c 177 rfl .n))))))) ?_
                        refine r_cond _ rfl (fun h13 => ?_) (fun h13 => ?_)
                        · skip
                          obtain ⟨x, hx⟩ := getlt (l := k2.shop.holds) (i := j) (by have := of_decide_eq_true h13; omega)
                          have hil3 := (List.getElem?_eq_some_iff.1 hx).1
                          refine r_skip ?_
                          refine r_seq ?_
                          refine r_block ?_
                          refine r_plan _ [] mo (.c 7 rfl (.c 8 rfl (.c 12 rfl (.c 14 rfl (.c 19 rfl (.c 20 rfl .n)))))) Ent.rfl ?_
                          refine qm_q (i := 0) (l := [.k 19]) rfl rfl rfl rfl (by kernel_rfl) rfl (fun He => PV.rq (pv_mv (.n rfl) rfl rfl (fun _ => rfl))) ?_
                          refine qm_q (i := 1) (l := [.o 0]) rfl rfl rfl rfl (by kernel_rfl) rfl (fun He => PV.rq (pv_mv (.n rfl) rfl rfl (fun _ => rfl))) ?_
                          refine qm_q (i := 2) (l := [.k 12, .o 1]) rfl rfl rfl rfl (by kernel_rfl) rfl (fun He => PV.rq (pv_mv (.s rfl rfl rfl) rfl rfl (by first | exact fun _ => rfl | exact id | exact fun h => (Bool.and_eq_true_iff.1 h).1 | simp_all))) ?_
                          refine qm_q (i := 3) (l := [.k 20, .o 1]) rfl rfl rfl rfl (by kernel_rfl) rfl (fun He => PV.rq (pv_mv (.s rfl rfl rfl) rfl rfl (by first | exact fun _ => rfl | exact id | exact fun h => (Bool.and_eq_true_iff.1 h).1 | simp_all))) ?_
                          refine qm_q (i := 4) (l := [.o 2, .o 3, .o 1]) rfl rfl rfl rfl (by kernel_rfl) rfl (fun He => PV.rq (pv_idx Try.underlying45 (.ofA ta_54) hr2 (fun hg => ⟨rfl, (mapget hx)⟩) (.s rfl rfl rfl) rfl rfl rfl (by refine fun h => ⟨?_, ?_⟩ <;> first | rfl | exact h | exact (Bool.and_eq_true_iff.1 h).1 | simp_all))) ?_
                          refine qm_q (i := 5) (l := [.o 4, .o 1]) rfl rfl rfl rfl (by kernel_rfl) rfl (fun He => RV.rq (rv_ldats (j := 0) ta_54 (Rd.ent hr2 (by repeat (first | exact Ent.rfl | exact Ent.one Ent.h | exact Ent.one (SelS.ent) | exact Ent.nil | exact Ent.left | refine Ent.dropR ?_ | refine Ent.tr Ent.skip ?_))) (fun hg => (mapget hx)) (.s rfl rfl rfl) rfl rfl (by first | exact fun _ => rfl | exact id | exact fun h => (Bool.and_eq_true_iff.1 h).1 | simp_all) rfl (.s (.s (.s .z))))) ?_
                          refine qm_q (i := 6) (l := [.k 7, .o 1]) rfl rfl rfl rfl (by kernel_rfl) rfl (fun He => PV.rq (pv_fa fa_31_1 (.s rfl rfl rfl) rfl rfl (by first | exact fun _ => rfl | exact id | exact fun h => (Bool.and_eq_true_iff.1 h).1 | simp_all))) ?_
                          refine qm_q (i := 7) (l := [.o 6, .o 1]) rfl rfl rfl rfl (by kernel_rfl) rfl (fun He => RV.rq (q_ldc tc_3 (.s rfl rfl rfl) rfl rfl (by first | exact fun _ => rfl | exact id | exact fun h => (Bool.and_eq_true_iff.1 h).1 | simp_all) (by rfl))) ?_
                          refine qm_q (i := 8) (l := [.k 7, .o 1]) rfl rfl rfl rfl (by kernel_rfl) rfl (fun He => PV.rq (pv_fa fa_31_3 (.s rfl rfl rfl) rfl rfl (by first | exact fun _ => rfl | exact id | exact fun h => (Bool.and_eq_true_iff.1 h).1 | simp_all))) ?_
                          refine qm_q (i := 9) (l := [.o 8, .o 1]) rfl rfl rfl rfl (by kernel_rfl) rfl (fun He => PV.rq (pv_fa fa_29_0 (.s rfl rfl rfl) rfl rfl (by first | exact fun _ => rfl | exact id | exact fun h => (Bool.and_eq_true_iff.1 h).1 | simp_all))) ?_
                          refine qm_q (i := 10) (l := [.o 9, .o 1]) rfl rfl rfl rfl (by kernel_rfl) rfl (fun He => RV.rq (q_ldc tc_3 (.s rfl rfl rfl) rfl rfl (by first | exact fun _ => rfl | exact id | exact fun h => (Bool.and_eq_true_iff.1 h).1 | simp_all) (by rfl))) ?_
                          refine qm_q (i := 11) (l := [.k 7, .o 1]) rfl rfl rfl rfl (by kernel_rfl) rfl (fun He => PV.rq (pv_fa fa_31_3 (.s rfl rfl rfl) rfl rfl (by first | exact fun _ => rfl | exact id | exact fun h => (Bool.and_eq_true_iff.1 h).1 | simp_all))) ?_
                          refine qm_q (i := 12) (l := [.o 11, .o 1]) rfl rfl rfl rfl (by kernel_rfl) rfl (fun He => PV.rq (pv_fa fa_29_1 (.s rfl rfl rfl) rfl rfl (by first | exact fun _ => rfl | exact id | exact fun h => (Bool.and_eq_true_iff.1 h).1 | simp_all))) ?_
                          refine qm_q (i := 13) (l := [.o 12, .o 1]) rfl rfl rfl rfl (by kernel_rfl) rfl (fun He => RV.rq (q_ldc tc_3 (.s rfl rfl rfl) rfl rfl (by first | exact fun _ => rfl | exact id | exact fun h => (Bool.and_eq_true_iff.1 h).1 | simp_all) (by rfl))) ?_
                          refine qm_q (i := 14) (l := [.o 7, .o 10, .o 13, .o 1]) rfl rfl rfl rfl (by kernel_rfl) rfl (fun He => PV.rq (pv_build zr_54 pl_54 (.s rfl rfl rfl) rfl (.c rfl (by first | exact fun _ => rfl | exact id | exact fun h => (Bool.and_eq_true_iff.1 h).1 | simp_all) rfl rfl rfl (by repeat constructor) (.c rfl (by first | exact fun _ => rfl | exact id | exact fun h => (Bool.and_eq_true_iff.1 h).1 | simp_all) rfl rfl rfl (by repeat constructor) (.c rfl (by first | exact fun _ => rfl | exact id | exact fun h => (Bool.and_eq_true_iff.1 h).1 | simp_all) rfl rfl rfl (by repeat constructor) .n))))) ?_
                          refine qm_q (i := 15) (l := [.o 5, .o 14, .o 1]) rfl rfl rfl rfl (by kernel_rfl) rfl (fun He => PV.rq (pv_aeq (eq_Hold (n := (⟨m.deal, m.ctr, m.dl⟩ : Hld))) (.s rfl rfl rfl) rfl rfl rfl (by refine fun h => ⟨?_, ?_⟩ <;> first | rfl | exact h | exact (Bool.and_eq_true_iff.1 h).1 | simp_all))) ?_
                          refine qm_q (i := 16) (l := [.o 1, .o 15]) rfl rfl rfl rfl (by kernel_rfl) rfl (fun He => PV.rq (pv_or (.n rfl) rfl rfl rfl (fun _ => ⟨rfl, fun hc => by first | rfl | (rw [hc]; rfl) | simp_all⟩))) ?_
                          refine qm_q (i := 17) (l := [.o 16]) rfl rfl rfl rfl (by kernel_rfl) rfl (fun He => PV.rq (pv_as (.n rfl) rfl rfl (fun _ => rfl))) ?_
                          refine qm_n (by kernel_rfl) (by kernel_rfl) (by kernel_rfl) (by kernel_rfl) (.c 7 rfl (.c 8 rfl (.c 12 rfl (.c 14 rfl (.c 19 rfl (.c 20 rfl .n)))))) ?_
                          refine r_end ?_
                          refine r_region ?_
                          refine p_mv rfl rfl ?_
                          refine p_add rfl rfl (by omega) rfl ?_
                          refine p_as rfl rfl ?_
                          refine o_keep (.c 7 rfl (.c 8 rfl (.c 12 rfl (.c 14 rfl (.c 19 rfl (.c 20 rfl .n)))))) ?_
                          refine r_back_2 (j + 1) (_) ?_ ?_ (Keep.app (.c 20 rfl (.c 19 rfl .n)) (.c 7 rfl (.c 8 rfl (.c 12 rfl (.c 14 rfl .n))))) ?_
                          · exact ⟨by omega, by rw [any_take hx, hH]⟩
                          · omega
                          · first | exact Ent.rfl | (repeat (first | exact Ent.rfl | refine Ent.c (SelB.ent) ?_ | refine Ent.c (SelS.ent) ?_ | refine Ent.cN ?_ | refine Ent.c (SelX.ent) ?_ | refine Ent.dropR ?_))
                        · skip
                          have hjl : k2.shop.holds.length ≤ j := by have := of_decide_eq_false h13; omega
                          rw [List.take_of_length_le hjl] at hH
                          have hH2 : hit = true := by rw [hH, List.any_eq_true]; exact ⟨_, ha4, by simp⟩
                          refine r_exit rfl ?_
                          refine r_seq ?_
                          refine r_region ?_
                          refine p_mv rfl rfl ?_
                          refine p_mv rfl rfl ?_
                          refine l_op (x_p (pv_mv (.s rfl rfl rfl) rfl rfl (by first | exact fun _ => rfl | exact id | exact fun h => (Bool.and_eq_true_iff.1 h).1 | simp_all)) rfl rfl ?_)
                          refine l_op (x_p (pv_not (.s rfl rfl rfl) rfl rfl (by first | exact fun _ => rfl | exact id | exact fun h => (Bool.and_eq_true_iff.1 h).1 | simp_all)) rfl rfl ?_)
                          refine l_op (x_p (pv_and (.n rfl) rfl rfl rfl (fun _ => ⟨rfl, fun hc => by first | rfl | (rw [hc]; rfl) | simp_all⟩)) rfl rfl ?_)
                          refine p_as rfl rfl ?_
                          refine o_keep (.c 8 rfl .n) ?_
                          refine r_retv hF rfl (.c (.t rfl) .n) ?_ ?_
                          · first | exact Ent.rfl | (repeat (first | exact Ent.rfl | refine Ent.c (SelB.ent) ?_ | refine Ent.c (SelS.ent) ?_ | refine Ent.cN ?_ | refine Ent.c (SelX.ent) ?_ | refine Ent.dropR ?_))
                          · first | rfl | (refine bool_eq ?_; simp; done) | (refine bool_eq ?_; simp [hH2, ha5]; done) | (refine bool_eq ?_; simp_all)
              · skip
                refine r_sel (clerkP b28 k2) ?_
                refine r_ex fun kb => ?_
                refine r_cat ?_
                refine r_sel (keepP kb k2) ?_
                refine r_ex2 fun sb lv => ?_
                refine r_cat ?_
                refine r_rd lv fun hrl => ?_
                refine r_plan _ [] mo (.c 0 rfl (.c 7 rfl (.c 8 rfl (.c 9 rfl (.c 11 rfl (.c 12 rfl (.c 13 rfl (.c 14 rfl (.c 15 rfl (.c 16 rfl (.c 17 rfl .n))))))))))) Ent.rfl ?_
                refine qm_q (i := 0) (l := [.k 11]) rfl rfl rfl rfl (by kernel_rfl) rfl (fun He => RV.rq (q_lda ta_36 (.n rfl) rfl rfl (fun _ => rfl) (by exact (Tk.all rfl)))) ?_
                refine qm_q (i := 1) (l := [.k 9]) rfl rfl rfl rfl (by kernel_rfl) rfl (fun He => PV.rq (pv_mv (.n rfl) rfl rfl (fun _ => rfl))) ?_
                refine qm_q (i := 2) (l := [.o 1]) rfl rfl rfl rfl (by kernel_rfl) rfl (fun He => PV.rq (pv_nilp (.n rfl) rfl rfl (fun _ => rfl))) ?_
                refine qm_q (i := 3) (l := [.o 2]) rfl rfl rfl rfl (by kernel_rfl) rfl (fun He => PV.rq (pv_fa fa_40_0 (.n rfl) rfl rfl (fun _ => rfl))) ?_
                refine qm_q (i := 4) (l := [.o 3]) rfl rfl rfl rfl (by kernel_rfl) rfl (fun He => RV.rq (q_ldc tc_38 (.n rfl) rfl rfl (fun _ => rfl) (by rfl))) ?_
                refine qm_q (i := 5) (l := [.o 4]) rfl rfl rfl rfl (by kernel_rfl) rfl (fun He => PV.rq (pv_nilp (.n rfl) rfl rfl (fun _ => rfl))) ?_
                refine qm_q (i := 6) (l := [.o 5]) rfl rfl rfl rfl (by kernel_rfl) rfl (fun He => PV.rq (pv_fa fa_44_0 (.n rfl) rfl rfl (fun _ => rfl))) ?_
                refine qm_q (i := 7) (l := [.o 6]) rfl rfl rfl rfl (by kernel_rfl) rfl (fun He => RV.rq (q_ldc tc_41 (.n rfl) rfl rfl (fun _ => rfl) (by rfl))) ?_
                refine qm_q (i := 8) (l := [.o 7]) rfl rfl rfl rfl (by kernel_rfl) rfl (fun He => rq_call cf_17 (.n rfl) rfl (.c rfl (fun _ => rfl) .n) (fun hg => (shop_Counts _ sb k2.shop).q)) ?_
                refine qm_q (i := 9) (l := [.o 0, .o 8]) rfl rfl rfl rfl (by kernel_rfl) rfl (fun He => PV.rq (pv_to (pv_aeq eq_Cnts (.n rfl) rfl rfl rfl (fun _ => ⟨rfl, rfl⟩)) (show _ = Value.bool true by simp [hc]))) ?_
                refine qm_q (i := 10) (l := [.o 9]) rfl rfl rfl rfl (by kernel_rfl) rfl (fun He => PV.rq (pv_mv (.n rfl) rfl rfl (fun _ => rfl))) ?_
                refine qm_q (i := 11) (l := [.k 12, .o 10]) rfl rfl rfl rfl (by kernel_rfl) rfl (fun He => PV.rq (pv_ung (.s rfl rfl rfl) rfl (pv_mv (.n rfl) rfl rfl (fun _ => rfl)))) ?_
                refine qm_q (i := 12) (l := [.k 9, .o 10]) rfl rfl rfl rfl (by kernel_rfl) rfl (fun He => PV.rq (pv_ung (.s rfl rfl rfl) rfl (pv_mv (.n rfl) rfl rfl (fun _ => rfl)))) ?_
                refine qm_q (i := 13) (l := [.o 12, .o 10]) rfl rfl rfl rfl (by kernel_rfl) rfl (fun He => PV.rq (pv_ung (.s rfl rfl rfl) rfl (pv_nilp (.n rfl) rfl rfl (fun _ => rfl)))) ?_
                refine qm_q (i := 14) (l := [.o 13, .o 10]) rfl rfl rfl rfl (by kernel_rfl) rfl (fun He => PV.rq (pv_ung (.s rfl rfl rfl) rfl (pv_fa fa_40_0 (.n rfl) rfl rfl (fun _ => rfl)))) ?_
                refine qm_q (i := 15) (l := [.o 14, .o 10]) rfl rfl rfl rfl (by kernel_rfl) rfl (fun He => RV.rq (rv_ung (.s rfl rfl rfl) rfl (q_ldc tc_38 (.n rfl) rfl rfl (fun _ => rfl) (by rfl)))) ?_
                refine qm_q (i := 16) (l := [.o 15, .o 10]) rfl rfl rfl rfl (by kernel_rfl) rfl (fun He => PV.rq (pv_ung (.s rfl rfl rfl) rfl (pv_nilp (.n rfl) rfl rfl (fun _ => rfl)))) ?_
                refine qm_q (i := 17) (l := [.o 16, .o 10]) rfl rfl rfl rfl (by kernel_rfl) rfl (fun He => PV.rq (pv_ung (.s rfl rfl rfl) rfl (pv_fa fa_44_0 (.n rfl) rfl rfl (fun _ => rfl)))) ?_
                refine qm_q (i := 18) (l := [.o 17, .o 10]) rfl rfl rfl rfl (by kernel_rfl) rfl (fun He => RV.rq (rv_ung (.s rfl rfl rfl) rfl (q_ldc tc_41 (.n rfl) rfl rfl (fun _ => rfl) (by rfl)))) ?_
                refine qm_calln (i := 19) [.o 18, .o 10] (by kernel_rfl) (by kernel_rfl) rfl rfl rfl rfl (by kernel_rfl) (by kernel_rfl) ⟨_, .s rfl rfl rfl, rfl⟩ cf_18 rfl (.c rfl .n) (shop_HoldsN _ sb k2.shop (by omega) (by omega)) fun hv2 => ?_
                refine qm_cat ?_
                refine qm_rd hv2 fun hr2 => ?_
                refine qm_keep ?_
                refine qm_q (i := 20) (l := [.o 11, .o 19, .o 10]) rfl rfl rfl rfl (by kernel_rfl) rfl (fun He => rq_ung (.s rfl rfl rfl) rfl (rq_call cf_20 (.n rfl) rfl (.c rfl (fun _ => rfl) (.c rfl (fun _ => rfl) .n)) (fun hg => fnv_to (ref_SameHolds _ _ _ _ k.shop.holds k2.shop.holds hr1.own hr2.own (by omega)) (show _ = Value.bool true from bool_eq (by simp [hh]))))) ?_
                refine qm_q (i := 21) (l := [.o 10, .o 20]) rfl rfl rfl rfl (by kernel_rfl) rfl (fun He => PV.rq (pv_and (.n rfl) rfl rfl rfl (fun _ => ⟨rfl, fun hc => by first | rfl | (rw [hc]; rfl) | simp_all⟩))) ?_
                refine qm_q (i := 22) (l := [.o 21]) rfl rfl rfl rfl (by kernel_rfl) rfl (fun He => PV.rq (pv_mv (.n rfl) rfl rfl (fun _ => rfl))) ?_
                refine qm_q (i := 23) (l := [.k 13, .o 22]) rfl rfl rfl rfl (by kernel_rfl) rfl (fun He => PV.rq (pv_ung (.s rfl rfl rfl) rfl (pv_mv (.n rfl) rfl rfl (fun _ => rfl)))) ?_
                refine qm_q (i := 24) (l := [.k 9, .o 22]) rfl rfl rfl rfl (by kernel_rfl) rfl (fun He => PV.rq (pv_ung (.s rfl rfl rfl) rfl (pv_mv (.n rfl) rfl rfl (fun _ => rfl)))) ?_
                refine qm_q (i := 25) (l := [.o 24, .o 22]) rfl rfl rfl rfl (by kernel_rfl) rfl (fun He => PV.rq (pv_ung (.s rfl rfl rfl) rfl (pv_nilp (.n rfl) rfl rfl (fun _ => rfl)))) ?_
                refine qm_q (i := 26) (l := [.o 25, .o 22]) rfl rfl rfl rfl (by kernel_rfl) rfl (fun He => PV.rq (pv_ung (.s rfl rfl rfl) rfl (pv_fa fa_40_0 (.n rfl) rfl rfl (fun _ => rfl)))) ?_
                refine qm_q (i := 27) (l := [.o 26, .o 22]) rfl rfl rfl rfl (by kernel_rfl) rfl (fun He => RV.rq (rv_ung (.s rfl rfl rfl) rfl (q_ldc tc_38 (.n rfl) rfl rfl (fun _ => rfl) (by rfl)))) ?_
                refine qm_calln (i := 28) [.o 27, .o 22] (by kernel_rfl) (by kernel_rfl) rfl rfl rfl rfl (by kernel_rfl) (by kernel_rfl) ⟨_, .s rfl rfl rfl, rfl⟩ cf_19 rfl (.c rfl .n) (keep_Records_oN _ kb k2 hK2 sb lv) fun rv2 => ?_
                refine qm_cat ?_
                refine qm_rd rv2 fun hq2 => ?_
                refine qm_keep ?_
                refine qm_q (i := 29) (l := [.o 23, .o 28, .o 22]) rfl rfl rfl rfl (by kernel_rfl) rfl (fun He => rq_ung (.s rfl rfl rfl) rfl (rq_call cf_21 (.n rfl) rfl (.c rfl (fun _ => rfl) (.c rfl (fun _ => rfl) .n)) (fun hg => ref_SameRecords _ _ _ _ k.l k2.l hq1.own hq2.own (by omega)))) ?_
                refine qm_q (i := 30) (l := [.o 22, .o 29]) rfl rfl rfl rfl (by kernel_rfl) rfl (fun He => PV.rq (pv_and (.n rfl) rfl rfl rfl (fun _ => ⟨rfl, fun hc => by first | rfl | (rw [hc]; rfl) | simp_all⟩))) ?_
                refine qm_q (i := 31) (l := [.o 30]) rfl rfl rfl rfl (by kernel_rfl) rfl (fun He => PV.rq (pv_as (.n rfl) rfl rfl (fun _ => rfl))) ?_
                refine qm_n (by kernel_rfl) (by kernel_rfl) (by kernel_rfl) (by kernel_rfl) (.c 0 rfl (.c 7 rfl (.c 8 rfl (.c 9 rfl (.c 12 rfl (.c 14 rfl (.c 15 rfl (.c 16 rfl (.c 17 rfl (.c 18 rfl .n)))))))))) ?_
                refine r_seq ?_
                refine r_seq ?_
                refine r_region ?_
                refine p_fa fa_31_2 rfl rfl ?_
                refine p_ldc tc_3 rfl (by rfl) rfl ?_
                refine p_mv rfl rfl ?_
                refine p_neq rfl rfl rfl ?_
                refine p_mv rfl rfl ?_
                refine l_op (x_p (pv_fa fa_31_0 (.s rfl rfl rfl) rfl rfl (by first | exact fun _ => rfl | exact id | exact fun h => (Bool.and_eq_true_iff.1 h).1 | simp_all)) rfl rfl ?_)
                refine l_op (x_r (q_ldc tc_3 (.s rfl rfl rfl) rfl rfl (by first | exact fun _ => rfl | exact id | exact fun h => (Bool.and_eq_true_iff.1 h).1 | simp_all) (by rfl)) rfl rfl ?_)
                refine l_op (x_p (pv_neq (.s rfl rfl rfl) rfl rfl rfl (by refine fun h => ⟨?_, ?_⟩ <;> first | rfl | exact h | exact (Bool.and_eq_true_iff.1 h).1 | simp_all)) rfl rfl ?_)
                refine l_op (x_p (pv_mv (.s rfl rfl rfl) rfl rfl (by first | exact fun _ => rfl | exact id | exact fun h => (Bool.and_eq_true_iff.1 h).1 | simp_all)) rfl rfl ?_)
                refine l_op (x_p (pv_fa fa_31_0 (.s rfl rfl rfl) rfl rfl (by first | exact fun _ => rfl | exact id | exact fun h => (Bool.and_eq_true_iff.1 h).1 | simp_all)) rfl rfl ?_)
                refine l_op (x_r (q_ldc tc_3 (.s rfl rfl rfl) rfl rfl (by first | exact fun _ => rfl | exact id | exact fun h => (Bool.and_eq_true_iff.1 h).1 | simp_all) (by rfl)) rfl rfl ?_)
                refine l_op (x_p (pv_neq (.s rfl rfl rfl) rfl rfl rfl (by refine fun h => ⟨?_, ?_⟩ <;> first | rfl | exact h | exact (Bool.and_eq_true_iff.1 h).1 | simp_all)) rfl rfl ?_)
                refine l_op (x_p (pv_and (.s rfl rfl rfl) rfl rfl rfl (by intro hg; refine ⟨?_, fun hc => ?_⟩ <;> first | rfl | (rw [hc]; rfl) | simp_all)) rfl rfl ?_)
                refine l_op (x_p (pv_or (.n rfl) rfl rfl rfl (fun _ => ⟨rfl, fun hc => by first | rfl | (rw [hc]; rfl) | simp_all⟩)) rfl rfl ?_)
                refine p_mv rfl rfl ?_
                refine l_op (x_p (pv_fa fa_31_0 (.s rfl rfl rfl) rfl rfl (by first | exact fun _ => rfl | exact id | exact fun h => (Bool.and_eq_true_iff.1 h).1 | simp_all)) rfl rfl ?_)
                refine l_op (x_r (q_ldc tc_3 (.s rfl rfl rfl) rfl rfl (by first | exact fun _ => rfl | exact id | exact fun h => (Bool.and_eq_true_iff.1 h).1 | simp_all) (by rfl)) rfl rfl ?_)
                refine l_op (x_p (pv_eql (.s rfl rfl rfl) rfl rfl rfl (by refine fun h => ⟨?_, ?_⟩ <;> first | rfl | exact h | exact (Bool.and_eq_true_iff.1 h).1 | simp_all)) rfl rfl ?_)
                refine l_op (x_p (pv_mv (.s rfl rfl rfl) rfl rfl (by first | exact fun _ => rfl | exact id | exact fun h => (Bool.and_eq_true_iff.1 h).1 | simp_all)) rfl rfl ?_)
                refine l_op (x_p (pv_mv (.s rfl rfl rfl) rfl rfl (by first | exact fun _ => rfl | exact id | exact fun h => (Bool.and_eq_true_iff.1 h).1 | simp_all)) rfl rfl ?_)
                refine l_op (x_p (pv_and (.s rfl rfl rfl) rfl rfl rfl (by intro hg; refine ⟨?_, fun hc => ?_⟩ <;> first | rfl | (rw [hc]; rfl) | simp_all)) rfl rfl ?_)
                refine l_op (x_p (pv_mv (.s rfl rfl rfl) rfl rfl (by first | exact fun _ => rfl | exact id | exact fun h => (Bool.and_eq_true_iff.1 h).1 | simp_all)) rfl rfl ?_)
                refine l_op (x_p (pv_mv (.s rfl rfl rfl) rfl rfl (by first | exact fun _ => rfl | exact id | exact fun h => (Bool.and_eq_true_iff.1 h).1 | simp_all)) rfl rfl ?_)
                refine l_op (x_p (pv_fa fa_31_4 (.s rfl rfl rfl) rfl rfl (by first | exact fun _ => rfl | exact id | exact fun h => (Bool.and_eq_true_iff.1 h).1 | simp_all)) rfl rfl ?_)
                refine l_op (x_r (q_ldc tc_4 (.s rfl rfl rfl) rfl rfl (by first | exact fun _ => rfl | exact id | exact fun h => (Bool.and_eq_true_iff.1 h).1 | simp_all) (by rfl)) rfl rfl ?_)
                refine l_op (x_p (pv_bne Try.underlying4 (.s rfl rfl rfl) rfl rfl rfl (by refine fun h => ⟨?_, ?_⟩ <;> first | rfl | exact h | exact (Bool.and_eq_true_iff.1 h).1 | simp_all)) rfl rfl ?_)
                refine l_op (x_p (pv_and (.s rfl rfl rfl) rfl rfl rfl (by intro hg; refine ⟨?_, fun hc => ?_⟩ <;> first | rfl | (rw [hc]; rfl) | simp_all)) rfl rfl ?_)
                refine l_op (x_p (pv_or (.n rfl) rfl rfl rfl (fun _ => ⟨rfl, fun hc => by first | rfl | (rw [hc]; rfl) | simp_all⟩)) rfl rfl ?_)
                refine o_keep (.c 7 rfl (.c 8 rfl (.c 9 rfl (.c 12 rfl (.c 14 rfl (.c 16 rfl (.c 17 rfl (.c 18 rfl (.c 141 rfl .n))))))))) ?_
                refine r_cond _ rfl (fun h14 => ?_) (fun h14 => ?_)
                · skip
                  have hC := others_yes hkn h14
                  rw [hC] at hoe
                  cases hoe
                  refine r_seq ?_
                  refine r_region ?_
                  refine p_mv rfl rfl ?_
                  refine p_not rfl rfl ?_
                  refine p_mv rfl rfl ?_
                  refine l_op (x_p (pv_mv (.s rfl rfl rfl) rfl rfl (by first | exact fun _ => rfl | exact id | exact fun h => (Bool.and_eq_true_iff.1 h).1 | simp_all)) rfl rfl ?_)
                  refine l_op (x_p (pv_and (.n rfl) rfl rfl rfl (fun _ => ⟨rfl, fun hc => by first | rfl | (rw [hc]; rfl) | simp_all⟩)) rfl rfl ?_)
                  refine p_mv rfl rfl ?_
                  refine l_op (x_r (q_lda ta_31 (.s rfl rfl rfl) rfl rfl (by first | exact fun _ => rfl | exact id | exact fun h => (Bool.and_eq_true_iff.1 h).1 | simp_all) (by exact (Tk.all rfl))) rfl rfl ?_)
                  refine l_op (x_p (pv_build zr_31 pl_31 (.s rfl rfl rfl) rfl (.n)) rfl rfl ?_)
                  refine l_op (x_p (pv_aeq (eq_Mail (n := Mail.z0)) (.s rfl rfl rfl) rfl rfl rfl (by refine fun h => ⟨?_, ?_⟩ <;> first | rfl | exact h | exact (Bool.and_eq_true_iff.1 h).1 | simp_all)) rfl rfl ?_)
                  refine l_op (x_p (pv_and (.n rfl) rfl rfl rfl (fun _ => ⟨rfl, fun hc => by first | rfl | (rw [hc]; rfl) | simp_all⟩)) rfl rfl ?_)
                  refine p_as rfl rfl ?_
                  refine o_keep (.c 7 rfl (.c 8 rfl (.c 9 rfl (.c 12 rfl (.c 14 rfl (.c 16 rfl (.c 17 rfl (.c 18 rfl .n)))))))) ?_
                  refine r_retv hF rfl (.c (.t rfl) .n) ?_ ?_
                  · first | exact Ent.rfl | (repeat (first | exact Ent.rfl | refine Ent.c (SelB.ent) ?_ | refine Ent.c (SelS.ent) ?_ | refine Ent.cN ?_ | refine Ent.c (SelX.ent) ?_ | refine Ent.dropR ?_))
                  · first | rfl | (refine bool_eq ?_; simp; done) | (refine bool_eq ?_; simp [hH2, ha5]; done) | (refine bool_eq ?_; simp_all)
                · skip
                  have hN := others_no hkn h14
                  refine r_skip ?_
                  refine r_seq ?_
                  refine r_seq ?_
                  refine r_region ?_
                  refine p_fa fa_31_0 rfl rfl ?_
                  refine p_ldc tc_3 rfl (by rfl) rfl ?_
                  refine p_neq rfl rfl rfl ?_
                  refine o_keep (.c 7 rfl (.c 8 rfl (.c 9 rfl (.c 12 rfl (.c 14 rfl (.c 16 rfl (.c 17 rfl (.c 18 rfl (.c 154 rfl .n))))))))) ?_
                  refine r_cond _ rfl (fun h15 => ?_) (fun h15 => ?_)
                  · skip
                    refine r_seq ?_
                    refine r_region ?_
                    refine p_as rfl rfl ?_
                    refine o_keep (.c 7 rfl (.c 8 rfl (.c 9 rfl (.c 12 rfl (.c 14 rfl (.c 16 rfl (.c 17 rfl (.c 18 rfl .n)))))))) ?_
                    refine r_retv hF rfl (.c (.t rfl) .n) ?_ ?_
                    · first | exact Ent.rfl | (repeat (first | exact Ent.rfl | refine Ent.c (SelB.ent) ?_ | refine Ent.c (SelS.ent) ?_ | refine Ent.cN ?_ | refine Ent.c (SelX.ent) ?_ | refine Ent.dropR ?_))
                    · first | rfl | (refine bool_eq ?_; simp; done) | (refine bool_eq ?_; simp [hH2, ha5]; done) | (refine bool_eq ?_; simp_all)
                  · skip
                    have hk1 : m.kind = 1 := by simpa using h15
                    obtain ⟨a, ha1, ha2, ha3⟩ := ansK_ask (k := k) (hN.trans hkn.symm) hk1
                    rw [hoe] at ha1 ha2 ha3
                    dsimp only at ha1 ha2 ha3
                    subst ha1
                    refine r_skip ?_
                    refine r_seq ?_
                    refine r_seq ?_
                    refine r_region ?_
                    refine p_mv rfl rfl ?_
                    refine p_not rfl rfl ?_
                    refine p_mv rfl rfl ?_
                    refine l_op (x_p (pv_fa fa_31_4 (.s rfl rfl rfl) rfl rfl (by first | exact fun _ => rfl | exact id | exact fun h => (Bool.and_eq_true_iff.1 h).1 | simp_all)) rfl rfl ?_)
                    refine l_op (x_r (q_ldc tc_4 (.s rfl rfl rfl) rfl rfl (by first | exact fun _ => rfl | exact id | exact fun h => (Bool.and_eq_true_iff.1 h).1 | simp_all) (by rfl)) rfl rfl ?_)
                    refine l_op (x_p (pv_not (.s rfl rfl rfl) rfl rfl (by first | exact fun _ => rfl | exact id | exact fun h => (Bool.and_eq_true_iff.1 h).1 | simp_all)) rfl rfl ?_)
                    refine l_op (x_p (pv_or (.n rfl) rfl rfl rfl (fun _ => ⟨rfl, fun hc => by first | rfl | (rw [hc]; rfl) | simp_all⟩)) rfl rfl ?_)
                    refine o_keep (.c 7 rfl (.c 8 rfl (.c 9 rfl (.c 12 rfl (.c 14 rfl (.c 17 rfl (.c 18 rfl (.c 161 rfl .n)))))))) ?_
                    refine r_cond _ rfl (fun h16 => ?_) (fun h16 => ?_)
                    · skip
                      have hy : a.yes = false := by simpa using h16
                      have hke := ha2 hy
                      subst hke
                      refine r_seq ?_
                      refine r_region ?_
                      refine p_mv rfl rfl ?_
                      refine p_mv rfl rfl ?_
                      refine l_op (x_p (pv_mv (.s rfl rfl rfl) rfl rfl (by first | exact fun _ => rfl | exact id | exact fun h => (Bool.and_eq_true_iff.1 h).1 | simp_all)) rfl rfl ?_)
                      refine l_op (x_p (pv_and (.n rfl) rfl rfl rfl (fun _ => ⟨rfl, fun hc => by first | rfl | (rw [hc]; rfl) | simp_all⟩)) rfl rfl ?_)
                      refine p_as rfl rfl ?_
                      refine o_keep (.c 7 rfl (.c 8 rfl (.c 9 rfl (.c 12 rfl (.c 14 rfl .n))))) ?_
                      refine r_retv hF rfl (.c (.t rfl) .n) ?_ ?_
                      · first | exact Ent.rfl | (repeat (first | exact Ent.rfl | refine Ent.c (SelB.ent) ?_ | refine Ent.c (SelS.ent) ?_ | refine Ent.cN ?_ | refine Ent.c (SelX.ent) ?_ | refine Ent.dropR ?_))
                      · first | rfl | (refine bool_eq ?_; simp; done) | (refine bool_eq ?_; simp [hH2, ha5]; done) | (refine bool_eq ?_; simp_all)
                    · skip
                      have hy : a.yes = true := by simpa using h16
                      obtain ⟨ha4, ha5⟩ := ha3 hy
                      refine r_skip ?_
                      refine r_seq ?_
                      refine r_region ?_
                      refine p_as rfl rfl ?_
                      refine o_keep (.c 7 rfl (.c 8 rfl (.c 9 rfl (.c 12 rfl (.c 14 rfl (.c 19 rfl .n)))))) ?_
                      refine r_seq ?_
                      refine r_region ?_
                      refine p_mv rfl rfl ?_
                      refine p_nil rfl rfl ?_
                      refine p_fa fa_40_0 rfl rfl ?_
                      refine p_ldc tc_38 rfl (by rfl) rfl ?_
                      refine p_nil rfl rfl ?_
                      refine p_fa fa_44_0 rfl rfl ?_
                      refine p_ldc tc_41 rfl (by rfl) rfl ?_
                      refine p_calle cf_18 (.c rfl .n) rfl (shop_Holds _ sb k2.shop (by omega) (by omega)) fun hv2 => ?_
                      refine o_cat ?_
                      refine o_rd hv2 fun hr2 => ?_
                      refine p_as rfl rfl ?_
                      refine o_keep (.c 7 rfl (.c 8 rfl (.c 12 rfl (.c 14 rfl (.c 19 rfl .n))))) ?_
                      refine r_seq ?_
                      refine r_seq ?_
                      refine r_region ?_
                      refine p_as rfl rfl ?_
                      refine o_keep (.c 7 rfl (.c 8 rfl (.c 12 rfl (.c 14 rfl (.c 19 rfl (.c 20 rfl .n)))))) ?_
                      refine r_block ?_
                      refine r_loop_2 (fun (j : Nat) (hit : Bool) => [(20, true, .int .i64 (j : Int)), (19, true, .bool hit)]) (.c 7 rfl (.c 8 rfl (.c 12 rfl (.c 14 rfl .n)))) (fun (j : Nat) (hit : Bool) => sl hv2 54 3 (k2.shop.holds.map rH) :: blk b7 (rM m) 31 :: H) (fun (j : Nat) (hit : Bool) => j ≤ k2.shop.holds.length ∧ hit = (k2.shop.holds.take j).any fun x => decide (x = (⟨m.deal, m.ctr, m.dl⟩ : Hld))) (fun (j : Nat) (hit : Bool) => k2.shop.holds.length - j) (0) (false) ?_ (.c 20 rfl (.c 19 rfl .n)) ?_ (fun j hit hI => ?_)
                      · exact ⟨Nat.zero_le _, by simp⟩
                      · first | exact Ent.rfl | (repeat (first | exact Ent.rfl | refine Ent.c (SelB.ent) ?_ | refine Ent.c (SelS.ent) ?_ | refine Ent.cN ?_ | refine Ent.c (SelX.ent) ?_ | refine Ent.dropR ?_))
                      · skip
                        obtain ⟨hjl0, hH⟩ := hI
                        refine r_seq ?_
                        refine r_seq ?_
                        refine r_region ?_
                        refine p_mv rfl rfl ?_
                        refine p_mv rfl rfl ?_
                        refine l_op (x_p (pv_lens (Rd.len hr2) ⟨_, Try.underlying45⟩ (.n rfl) rfl rfl rfl rfl (fun _ => rfl)) rfl rfl ?_)
                        refine p_lss rfl rfl rfl ?_
                        refine o_keep (.c 7 rfl (.c 8 rfl (.c 12 rfl (.c 14 rfl (.c 19 rfl (.c 20 rfl (.c 177 rfl .n))))))) ?_
                        refine r_cond _ rfl (fun h17 => ?_) (fun h17 => ?_)
                        · skip
                          obtain ⟨x, hx⟩ := getlt (l := k2.shop.holds) (i := j) (by have := of_decide_eq_true h17; omega)
                          have hil3 := (List.getElem?_eq_some_iff.1 hx).1
                          refine r_skip ?_
                          refine r_seq ?_
                          refine r_block ?_
                          refine r_plan _ [] mo (.c 7 rfl (.c 8 rfl (.c 12 rfl (.c 14 rfl (.c 19 rfl (.c 20 rfl .n)))))) Ent.rfl ?_
                          refine qm_q (i := 0) (l := [.k 19]) rfl rfl rfl rfl (by kernel_rfl) rfl (fun He => PV.rq (pv_mv (.n rfl) rfl rfl (fun _ => rfl))) ?_
                          refine qm_q (i := 1) (l := [.o 0]) rfl rfl rfl rfl (by kernel_rfl) rfl (fun He => PV.rq (pv_mv (.n rfl) rfl rfl (fun _ => rfl))) ?_
                          refine qm_q (i := 2) (l := [.k 12, .o 1]) rfl rfl rfl rfl (by kernel_rfl) rfl (fun He => PV.rq (pv_mv (.s rfl rfl rfl) rfl rfl (by first | exact fun _ => rfl | exact id | exact fun h => (Bool.and_eq_true_iff.1 h).1 | simp_all))) ?_
                          refine qm_q (i := 3) (l := [.k 20, .o 1]) rfl rfl rfl rfl (by kernel_rfl) rfl (fun He => PV.rq (pv_mv (.s rfl rfl rfl) rfl rfl (by first | exact fun _ => rfl | exact id | exact fun h => (Bool.and_eq_true_iff.1 h).1 | simp_all))) ?_
                          refine qm_q (i := 4) (l := [.o 2, .o 3, .o 1]) rfl rfl rfl rfl (by kernel_rfl) rfl (fun He => PV.rq (pv_idx Try.underlying45 (.ofA ta_54) hr2 (fun hg => ⟨rfl, (mapget hx)⟩) (.s rfl rfl rfl) rfl rfl rfl (by refine fun h => ⟨?_, ?_⟩ <;> first | rfl | exact h | exact (Bool.and_eq_true_iff.1 h).1 | simp_all))) ?_
                          refine qm_q (i := 5) (l := [.o 4, .o 1]) rfl rfl rfl rfl (by kernel_rfl) rfl (fun He => RV.rq (rv_ldats (j := 0) ta_54 (Rd.ent hr2 (by repeat (first | exact Ent.rfl | exact Ent.one Ent.h | exact Ent.one (SelS.ent) | exact Ent.nil | exact Ent.left | refine Ent.dropR ?_ | refine Ent.tr Ent.skip ?_))) (fun hg => (mapget hx)) (.s rfl rfl rfl) rfl rfl (by first | exact fun _ => rfl | exact id | exact fun h => (Bool.and_eq_true_iff.1 h).1 | simp_all) rfl (.s (.s (.s .z))))) ?_
                          refine qm_q (i := 6) (l := [.k 7, .o 1]) rfl rfl rfl rfl (by kernel_rfl) rfl (fun He => PV.rq (pv_fa fa_31_1 (.s rfl rfl rfl) rfl rfl (by first | exact fun _ => rfl | exact id | exact fun h => (Bool.and_eq_true_iff.1 h).1 | simp_all))) ?_
                          refine qm_q (i := 7) (l := [.o 6, .o 1]) rfl rfl rfl rfl (by kernel_rfl) rfl (fun He => RV.rq (q_ldc tc_3 (.s rfl rfl rfl) rfl rfl (by first | exact fun _ => rfl | exact id | exact fun h => (Bool.and_eq_true_iff.1 h).1 | simp_all) (by rfl))) ?_
                          refine qm_q (i := 8) (l := [.k 7, .o 1]) rfl rfl rfl rfl (by kernel_rfl) rfl (fun He => PV.rq (pv_fa fa_31_3 (.s rfl rfl rfl) rfl rfl (by first | exact fun _ => rfl | exact id | exact fun h => (Bool.and_eq_true_iff.1 h).1 | simp_all))) ?_
                          refine qm_q (i := 9) (l := [.o 8, .o 1]) rfl rfl rfl rfl (by kernel_rfl) rfl (fun He => PV.rq (pv_fa fa_29_0 (.s rfl rfl rfl) rfl rfl (by first | exact fun _ => rfl | exact id | exact fun h => (Bool.and_eq_true_iff.1 h).1 | simp_all))) ?_
                          refine qm_q (i := 10) (l := [.o 9, .o 1]) rfl rfl rfl rfl (by kernel_rfl) rfl (fun He => RV.rq (q_ldc tc_3 (.s rfl rfl rfl) rfl rfl (by first | exact fun _ => rfl | exact id | exact fun h => (Bool.and_eq_true_iff.1 h).1 | simp_all) (by rfl))) ?_
                          refine qm_q (i := 11) (l := [.k 7, .o 1]) rfl rfl rfl rfl (by kernel_rfl) rfl (fun He => PV.rq (pv_fa fa_31_3 (.s rfl rfl rfl) rfl rfl (by first | exact fun _ => rfl | exact id | exact fun h => (Bool.and_eq_true_iff.1 h).1 | simp_all))) ?_
                          refine qm_q (i := 12) (l := [.o 11, .o 1]) rfl rfl rfl rfl (by kernel_rfl) rfl (fun He => PV.rq (pv_fa fa_29_1 (.s rfl rfl rfl) rfl rfl (by first | exact fun _ => rfl | exact id | exact fun h => (Bool.and_eq_true_iff.1 h).1 | simp_all))) ?_
                          refine qm_q (i := 13) (l := [.o 12, .o 1]) rfl rfl rfl rfl (by kernel_rfl) rfl (fun He => RV.rq (q_ldc tc_3 (.s rfl rfl rfl) rfl rfl (by first | exact fun _ => rfl | exact id | exact fun h => (Bool.and_eq_true_iff.1 h).1 | simp_all) (by rfl))) ?_
                          refine qm_q (i := 14) (l := [.o 7, .o 10, .o 13, .o 1]) rfl rfl rfl rfl (by kernel_rfl) rfl (fun He => PV.rq (pv_build zr_54 pl_54 (.s rfl rfl rfl) rfl (.c rfl (by first | exact fun _ => rfl | exact id | exact fun h => (Bool.and_eq_true_iff.1 h).1 | simp_all) rfl rfl rfl (by repeat constructor) (.c rfl (by first | exact fun _ => rfl | exact id | exact fun h => (Bool.and_eq_true_iff.1 h).1 | simp_all) rfl rfl rfl (by repeat constructor) (.c rfl (by first | exact fun _ => rfl | exact id | exact fun h => (Bool.and_eq_true_iff.1 h).1 | simp_all) rfl rfl rfl (by repeat constructor) .n))))) ?_
                          refine qm_q (i := 15) (l := [.o 5, .o 14, .o 1]) rfl rfl rfl rfl (by kernel_rfl) rfl (fun He => PV.rq (pv_aeq (eq_Hold (n := (⟨m.deal, m.ctr, m.dl⟩ : Hld))) (.s rfl rfl rfl) rfl rfl rfl (by refine fun h => ⟨?_, ?_⟩ <;> first | rfl | exact h | exact (Bool.and_eq_true_iff.1 h).1 | simp_all))) ?_
                          refine qm_q (i := 16) (l := [.o 1, .o 15]) rfl rfl rfl rfl (by kernel_rfl) rfl (fun He => PV.rq (pv_or (.n rfl) rfl rfl rfl (fun _ => ⟨rfl, fun hc => by first | rfl | (rw [hc]; rfl) | simp_all⟩))) ?_
                          refine qm_q (i := 17) (l := [.o 16]) rfl rfl rfl rfl (by kernel_rfl) rfl (fun He => PV.rq (pv_as (.n rfl) rfl rfl (fun _ => rfl))) ?_
                          refine qm_n (by kernel_rfl) (by kernel_rfl) (by kernel_rfl) (by kernel_rfl) (.c 7 rfl (.c 8 rfl (.c 12 rfl (.c 14 rfl (.c 19 rfl (.c 20 rfl .n)))))) ?_
                          refine r_end ?_
                          refine r_region ?_
                          refine p_mv rfl rfl ?_
                          refine p_add rfl rfl (by omega) rfl ?_
                          refine p_as rfl rfl ?_
                          refine o_keep (.c 7 rfl (.c 8 rfl (.c 12 rfl (.c 14 rfl (.c 19 rfl (.c 20 rfl .n)))))) ?_
                          refine r_back_2 (j + 1) (_) ?_ ?_ (Keep.app (.c 20 rfl (.c 19 rfl .n)) (.c 7 rfl (.c 8 rfl (.c 12 rfl (.c 14 rfl .n))))) ?_
                          · exact ⟨by omega, by rw [any_take hx, hH]⟩
                          · omega
                          · first | exact Ent.rfl | (repeat (first | exact Ent.rfl | refine Ent.c (SelB.ent) ?_ | refine Ent.c (SelS.ent) ?_ | refine Ent.cN ?_ | refine Ent.c (SelX.ent) ?_ | refine Ent.dropR ?_))
                        · skip
                          have hjl : k2.shop.holds.length ≤ j := by have := of_decide_eq_false h17; omega
                          rw [List.take_of_length_le hjl] at hH
                          have hH2 : hit = true := by rw [hH, List.any_eq_true]; exact ⟨_, ha4, by simp⟩
                          refine r_exit rfl ?_
                          refine r_seq ?_
                          refine r_region ?_
                          refine p_mv rfl rfl ?_
                          refine p_mv rfl rfl ?_
                          refine l_op (x_p (pv_mv (.s rfl rfl rfl) rfl rfl (by first | exact fun _ => rfl | exact id | exact fun h => (Bool.and_eq_true_iff.1 h).1 | simp_all)) rfl rfl ?_)
                          refine l_op (x_p (pv_not (.s rfl rfl rfl) rfl rfl (by first | exact fun _ => rfl | exact id | exact fun h => (Bool.and_eq_true_iff.1 h).1 | simp_all)) rfl rfl ?_)
                          refine l_op (x_p (pv_and (.n rfl) rfl rfl rfl (fun _ => ⟨rfl, fun hc => by first | rfl | (rw [hc]; rfl) | simp_all⟩)) rfl rfl ?_)
                          refine p_as rfl rfl ?_
                          refine o_keep (.c 8 rfl .n) ?_
                          refine r_retv hF rfl (.c (.t rfl) .n) ?_ ?_
                          · first | exact Ent.rfl | (repeat (first | exact Ent.rfl | refine Ent.c (SelB.ent) ?_ | refine Ent.c (SelS.ent) ?_ | refine Ent.cN ?_ | refine Ent.c (SelX.ent) ?_ | refine Ent.dropR ?_))
                          · first | rfl | (refine bool_eq ?_; simp; done) | (refine bool_eq ?_; simp [hH2, ha5]; done) | (refine bool_eq ?_; simp_all)

end Go.Proofs.Ytmakdilmibjpbac
