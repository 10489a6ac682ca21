/- The walks of ClerkW: written by a program of ours (gen.py) over the engine. -/
import Derived.Test.YtmakdilmibjpbacPlain
import Derived.Test.YtmakdilmibjpbacFacts
import Derived.Test.YtmakdilmibjpbacClerkP
import Derived.Test.YtmakdilmibjpbacKeepW2
namespace Go.Proofs.Ytmakdilmibjpbac
open Go Go.RowKit
set_option linter.unusedVariables false
set_option linter.unusedSimpArgs false
set_option maxRecDepth 20000

def cNewP (o : Option ShopS) (no : Int) (ws : List Int) (x : Nat) : List HP := match o with | none => [] | some s => [clerkP x ⟨no, ws, s, []⟩]

theorem clerk_New (M : Amb) (no : Int) (ws : List Int) (h6 : ws.length = 6) : FnE (α := Nat) Try.prog M 15 [.int .i64 no, .agg (ws.map vI).toArray] [] (fun x => newVal (newS no ws) x) (fun x => cNewP (newS no ws) no ws x) := by
  refine fne_intro Try.func15 rfl Try.ntmps15 rfl fun R F hF => ?_
  show Run _ _ _ _ _ _ R
  refine r_seq ?_
  refine r_region ?_
  refine p_box rfl rfl rfl fun b3 => ?_
  refine p_as rfl rfl ?_
  refine o_keep (.c 0 rfl (.c 3 rfl (.c 4 rfl .n))) ?_
  refine r_seq ?_
  rcases hn : newS no ws with _ | s
  · skip
    refine r_region ?_
    refine p_mv rfl rfl ?_
    refine p_lda ta_23 rfl (by exact (Tk.all (by first | rfl | assumption | (simp only [List.drop_zero, List.length_map]; assumption) | (simp [*]; done)))) rfl ?_
    refine p_callc cf_49 (.c rfl (.c rfl .n)) rfl (keep_New_none _ no ws h6 hn) ?_
    refine p_as rfl rfl ?_
    refine o_keep (.c 0 rfl (.c 4 rfl (.c 5 rfl .n))) ?_
    refine r_seq ?_
    refine r_seq ?_
    refine r_region ?_
    refine p_mv rfl rfl ?_
    refine l_op (x_p (pv_peqn Try.underlying38 (.n rfl) rfl rfl rfl (fun _ => ⟨rfl, rfl⟩)) rfl rfl ?_)
    refine o_keep (.c 0 rfl (.c 4 rfl (.c 5 rfl (.c 10 rfl .n)))) ?_
    refine r_cond _ rfl (fun h1 => ?_) (fun h1 => ?_)
    · skip
      refine r_seq ?_
      refine r_region ?_
      refine p_as rfl rfl ?_
      refine o_keep (.c 0 rfl (.c 4 rfl (.c 5 rfl .n))) ?_
      refine r_rete (0) hF rfl (.c (.t rfl) .n) ?_ ?_
      · show Ent _ (cNewP _ _ _ _ ++ R); rw [hn]; show Ent _ R; first | exact Ent.rfl | (repeat (first | exact Ent.rfl | refine Ent.c (SelB.ent) ?_ | refine Ent.c (SelS.ent) ?_ | refine Ent.cN ?_ | refine Ent.c (SelX.ent) ?_ | refine Ent.dropR ?_))
      · rw [hn]; rfl
    · simp at h1
  · skip
    refine r_region ?_
    refine p_mv rfl rfl ?_
    refine p_lda ta_23 rfl (by exact (Tk.all (by first | rfl | assumption | (simp only [List.drop_zero, List.length_map]; assumption) | (simp [*]; done)))) rfl ?_
    refine p_calle cf_49 (.c rfl (.c rfl .n)) rfl (keep_New_some _ no ws h6 hn) fun kb => ?_
    refine o_cat ?_
    refine p_as rfl rfl ?_
    refine o_keep (.c 0 rfl (.c 4 rfl (.c 5 rfl .n))) ?_
    refine r_seq ?_
    refine r_seq ?_
    refine r_region ?_
    refine p_mv rfl rfl ?_
    refine l_op (x_p (pv_peqn Try.underlying38 (.n rfl) rfl rfl rfl (fun _ => ⟨rfl, rfl⟩)) rfl rfl ?_)
    refine o_keep (.c 0 rfl (.c 4 rfl (.c 5 rfl (.c 10 rfl .n)))) ?_
    refine r_cond _ rfl (fun h2 => ?_) (fun h2 => ?_)
    · simp at h2
    · skip
      refine r_skip ?_
      refine r_seq ?_
      refine r_region ?_
      refine p_mv rfl rfl ?_
      refine p_mv rfl rfl ?_
      refine p_build zr_40 pl_40 (.c rfl (fun _ => rfl) rfl rfl rfl (by repeat constructor) (.c rfl (fun _ => rfl) rfl rfl rfl (by repeat constructor) .n)) rfl ?_
      refine p_box rfl rfl rfl fun b14 => ?_
      refine p_as rfl rfl ?_
      refine o_keep (.c 4 rfl .n) ?_
      refine r_rete (b14) hF rfl (.c (.t rfl) .n) ?_ ?_
      · show Ent _ (cNewP _ _ _ _ ++ R); rw [hn]; show Ent _ (clerkP b14 _ :: R); refine Ent.c (clerkP_close kb rfl) ?_; first | exact Ent.rfl | (repeat (first | exact Ent.rfl | refine Ent.c (SelB.ent) ?_ | refine Ent.c (SelS.ent) ?_ | refine Ent.cN ?_ | refine Ent.c (SelX.ent) ?_ | refine Ent.dropR ?_))
      · rw [hn]; rfl

theorem clerk_New_none (M : Amb) (no : Int) (ws : List Int) (h6 : ws.length = 6) (h : newS no ws = none) : FnC Try.prog M 15 [.int .i64 no, .agg (ws.map vI).toArray] (.pointer Option.none) [] [] := fun R w ho =>
  (clerk_New M no ws h6 R w ho).mono fun _ _ ⟨v, H', e, ⟨x, h1, h2⟩, ho'⟩ => ⟨v, H', e, ⟨by rw [h1, h]; rfl, by rw [h2, h]; rfl⟩, ho'⟩
theorem clerk_New_some (M : Amb) (no : Int) (ws : List Int) (h6 : ws.length = 6) {s : ShopS} (h : newS no ws = some s) : FnE (α := Nat) Try.prog M 15 [.int .i64 no, .agg (ws.map vI).toArray] [] (fun x => ptr x) (fun x => [clerkP x ⟨no, ws, s, []⟩]) := fun R w ho =>
  (clerk_New M no ws h6 R w ho).mono fun _ _ ⟨v, H', e, ⟨x, h1, h2⟩, ho'⟩ => ⟨v, H', e, ⟨x, by rw [h1, h]; rfl, by rw [h2, h]; rfl⟩, ho'⟩

theorem clerk_Answer (M : Amb) (b : Nat) (k : KeepS) (hI : KInv k) (m : Mail) : FnC Try.prog M 16 [ptr b, vM m] (.tuple #[vM ((ansK k m).2.getD Mail.z0), .bool (ansK k m).2.isSome]) [clerkP b k] [clerkP b (ansK k m).1] := by
  refine fnc_intro Try.func16 rfl Try.ntmps16 rfl fun R F hF => ?_
  refine r_cat ?_
  refine r_ex fun kb => ?_
  refine r_cat ?_
  refine r_seq ?_
  refine r_region ?_
  refine p_box rfl rfl rfl fun b3 => ?_
  refine p_alloc zr_31 rfl fun b4 => ?_
  refine p_as rfl rfl ?_
  refine o_keep (.c 0 rfl (.c 3 rfl (.c 4 rfl (.c 5 rfl .n)))) ?_
  refine r_seq ?_
  refine r_seq ?_
  refine r_plan _ [] mo (.c 0 rfl (.c 3 rfl (.c 4 rfl (.c 5 rfl .n)))) Ent.rfl ?_
  refine qm_q (i := 0) (l := [.k 3]) rfl rfl rfl rfl (by kernel_rfl) rfl (fun He => PV.rq (pv_fa fa_31_2 (.n rfl) rfl rfl (fun _ => rfl))) ?_
  refine qm_q (i := 1) (l := [.o 0]) rfl rfl rfl rfl (by kernel_rfl) rfl (fun He => RV.rq (q_ldc tc_3 (.n rfl) rfl rfl (fun _ => rfl) (by rfl))) ?_
  refine qm_q (i := 2) (l := [.k 0]) rfl rfl rfl rfl (by kernel_rfl) rfl (fun He => PV.rq (pv_mv (.n rfl) rfl rfl (fun _ => rfl))) ?_
  refine qm_q (i := 3) (l := [.o 2]) rfl rfl rfl rfl (by kernel_rfl) rfl (fun He => PV.rq (pv_nilp (.n rfl) rfl rfl (fun _ => rfl))) ?_
  refine qm_q (i := 4) (l := [.o 3]) rfl rfl rfl rfl (by kernel_rfl) rfl (fun He => PV.rq (pv_fa fa_40_1 (.n rfl) rfl rfl (fun _ => rfl))) ?_
  refine qm_q (i := 5) (l := [.o 4]) rfl rfl rfl rfl (by kernel_rfl) rfl (fun He => RV.rq (q_ldc tc_3 (.n rfl) rfl rfl (fun _ => rfl) (by rfl))) ?_
  refine qm_q (i := 6) (l := [.o 1, .o 5]) rfl rfl rfl rfl (by kernel_rfl) rfl (fun He => PV.rq (pv_neq (.n rfl) rfl rfl rfl (fun _ => ⟨rfl, rfl⟩))) ?_
  refine qm_n (by kernel_rfl) (by kernel_rfl) (by kernel_rfl) (by kernel_rfl) (.c 0 rfl (.c 3 rfl (.c 4 rfl (.c 5 rfl (.c 14 rfl .n))))) ?_
  refine r_cond _ rfl (fun h1 => ?_) (fun h1 => ?_)
  · skip
    have hs := ansK_1 (k := k) (m := m) (by simpa using h1)
    refine r_seq ?_
    refine r_region ?_
    refine p_build zr_31 pl_31 (.n) rfl ?_
    refine p_store (.ofA ta_31) rfl rfl rfl (by first | rfl | exact rfl) (by first | rfl | exact rfl) (Ins.whole (by first | rfl | (simp only [List.length_map, List.length_cons, List.length_nil]; omega) | (simp [*]; done) | (simp [*]; rfl))) ?_
    refine p_as rfl rfl ?_
    refine o_keep (.c 0 rfl (.c 3 rfl (.c 4 rfl (.c 5 rfl .n)))) ?_
    refine r_retv hF rfl (.c (.a rfl ta_31 (.blk (SelB.ent) (Tk.all rfl)) rfl) (.c (.t rfl) .n)) ?_ ?_
    · refine Ent.catI ?_; rw [hs]; refine Ent.c (clerkP_close kb rfl) ?_; first | exact Ent.rfl | (repeat (first | exact Ent.rfl | refine Ent.c (SelB.ent) ?_ | refine Ent.c (SelS.ent) ?_ | refine Ent.cN ?_ | refine Ent.c (SelX.ent) ?_ | refine Ent.dropR ?_))
    · rw [hs]; rfl
  · skip
    have h0 : ¬ m.shop ≠ k.no := by simpa using h1
    refine r_skip ?_
    refine r_seq ?_
    refine r_region ?_
    refine p_lda ta_31 rfl (by exact (Tk.all rfl)) rfl ?_
    refine p_alloc zr_31 rfl fun b6 => ?_
    refine p_store (.ofA ta_31) rfl rfl rfl (by first | rfl | exact rfl) (by first | rfl | exact rfl) (Ins.whole (by first | rfl | (simp only [List.length_map, List.length_cons, List.length_nil]; omega) | (simp [*]; done) | (simp [*]; rfl))) ?_
    refine o_keep (.c 0 rfl (.c 3 rfl (.c 4 rfl (.c 5 rfl (.c 6 rfl .n))))) ?_
    refine r_seq ?_
    refine r_seq ?_
    refine r_region ?_
    refine p_fa fa_31_0 rfl rfl ?_
    refine p_ldc tc_3 rfl (by rfl) rfl ?_
    refine o_keep (.c 0 rfl (.c 3 rfl (.c 4 rfl (.c 5 rfl (.c 6 rfl (.c 18 rfl .n)))))) ?_
    refine r_block ?_
    refine r_seq ?_
    refine r_region ?_
    refine p_eql rfl rfl rfl ?_
    refine p_as rfl rfl ?_
    refine o_keep (.c 0 rfl (.c 3 rfl (.c 4 rfl (.c 5 rfl (.c 6 rfl (.c 18 rfl (.c 19 rfl .n))))))) ?_
    refine r_cond _ rfl (fun h2 => ?_) (fun h2 => ?_)
    · skip
      have hs := ansK_2 h0 (of_decide_eq_true h2)
      refine r_seq ?_
      refine r_plan (_) ([keepP kb k]) mo (.c 0 rfl (.c 3 rfl (.c 4 rfl (.c 5 rfl (.c 6 rfl .n))))) (SelX.ent) ?_
      refine qm_q (i := 0) (l := [.k 0]) rfl rfl rfl rfl (by kernel_rfl) rfl (fun He => PV.rq (pv_mv (.n rfl) rfl rfl (fun _ => rfl))) ?_
      refine qm_q (i := 1) (l := [.o 0]) rfl rfl rfl rfl (by kernel_rfl) rfl (fun He => PV.rq (pv_nilp (.n rfl) rfl rfl (fun _ => rfl))) ?_
      refine qm_q (i := 2) (l := [.o 1]) rfl rfl rfl rfl (by kernel_rfl) rfl (fun He => PV.rq (pv_fa fa_40_0 (.n rfl) rfl rfl (fun _ => rfl))) ?_
      refine qm_q (i := 3) (l := [.o 2]) rfl rfl rfl rfl (by kernel_rfl) rfl (fun He => RV.rq (q_ldc tc_38 (.n rfl) rfl rfl (fun _ => rfl) (by rfl))) ?_
      refine qm_q (i := 4) (l := [.k 3]) rfl rfl rfl rfl (by kernel_rfl) rfl (fun He => PV.rq (pv_fa fa_31_1 (.n rfl) rfl rfl (fun _ => rfl))) ?_
      refine qm_q (i := 5) (l := [.o 4]) rfl rfl rfl rfl (by kernel_rfl) rfl (fun He => RV.rq (q_ldc tc_3 (.n rfl) rfl rfl (fun _ => rfl) (by rfl))) ?_
      refine qm_q (i := 6) (l := [.k 3]) rfl rfl rfl rfl (by kernel_rfl) rfl (fun He => PV.rq (pv_fa fa_31_3 (.n rfl) rfl rfl (fun _ => rfl))) ?_
      refine qm_q (i := 7) (l := [.o 6]) rfl rfl rfl rfl (by kernel_rfl) rfl (fun He => PV.rq (pv_fa fa_29_0 (.n rfl) rfl rfl (fun _ => rfl))) ?_
      refine qm_q (i := 8) (l := [.o 7]) rfl rfl rfl rfl (by kernel_rfl) rfl (fun He => RV.rq (q_ldc tc_3 (.n rfl) rfl rfl (fun _ => rfl) (by rfl))) ?_
      refine qm_q (i := 9) (l := [.k 3]) rfl rfl rfl rfl (by kernel_rfl) rfl (fun He => PV.rq (pv_fa fa_31_3 (.n rfl) rfl rfl (fun _ => rfl))) ?_
      refine qm_q (i := 10) (l := [.o 9]) rfl rfl rfl rfl (by kernel_rfl) rfl (fun He => PV.rq (pv_fa fa_29_1 (.n rfl) rfl rfl (fun _ => rfl))) ?_
      refine qm_q (i := 11) (l := [.o 10]) rfl rfl rfl rfl (by kernel_rfl) rfl (fun He => RV.rq (q_ldc tc_3 (.n rfl) rfl rfl (fun _ => rfl) (by rfl))) ?_
      refine qm_q (i := 12) (l := [.o 5, .o 8, .o 11]) rfl rfl rfl rfl (by kernel_rfl) rfl (fun He => PV.rq (pv_build zr_101 pl_101 (.n rfl) rfl (.c rfl (fun _ => rfl) rfl rfl rfl (by repeat constructor) (.c rfl (fun _ => rfl) rfl rfl rfl (by repeat constructor) (.c rfl (fun _ => rfl) rfl rfl rfl (by repeat constructor) (.c rfl (fun _ => rfl) rfl rfl rfl (by repeat constructor) .n)))))) ?_
      refine qb_callc (i := 13) [.o 3, .o 12] (by kernel_rfl) (by kernel_rfl) rfl rfl rfl rfl (by kernel_rfl) (by kernel_rfl) (by kernel_rfl) ⟨_, .n rfl, rfl⟩ cf_50 rfl (.c rfl (.c rfl .n)) (keep_Do _ kb k hI ⟨1, m.deal, m.ctr, m.dl, false⟩) ?_
      refine qm_q (i := 14) (l := [.o 13]) rfl rfl rfl rfl (by kernel_rfl) rfl (fun He => PV.rq (pv_as (.n rfl) rfl rfl (fun _ => rfl))) ?_
      refine qm_n (by kernel_rfl) (by kernel_rfl) (by kernel_rfl) (by kernel_rfl) (.c 4 rfl (.c 5 rfl (.c 6 rfl (.c 7 rfl .n)))) ?_
      refine r_seq ?_
      refine r_region ?_
      refine p_mv rfl rfl ?_
      refine p_eql rfl rfl rfl ?_
      refine p_fa fa_31_0 rfl rfl ?_
      refine p_store (.ofC tc_3) rfl rfl rfl rfl rfl (by repeat constructor) ?_
      refine p_fa fa_31_4 rfl rfl ?_
      refine p_store (.ofC tc_4) rfl rfl rfl rfl rfl (by repeat constructor) ?_
      refine o_keep (.c 4 rfl (.c 5 rfl (.c 6 rfl .n))) ?_
      refine r_seq ?_
      refine r_region ?_
      refine p_lda ta_31 rfl (by exact (Tk.all rfl)) rfl ?_
      refine p_store (.ofA ta_31) rfl rfl rfl (by first | rfl | exact rfl) (by first | rfl | exact rfl) (Ins.whole (by first | rfl | (simp only [List.length_map, List.length_cons, List.length_nil]; omega) | (simp [*]; done) | (simp [*]; rfl))) ?_
      refine p_as rfl rfl ?_
      refine o_keep (.c 4 rfl (.c 5 rfl .n)) ?_
      refine r_retv hF rfl (.c (.a rfl ta_31 (.blk (SelB.ent) (Tk.all rfl)) rfl) (.c (.t rfl) .n)) ?_ ?_
      · refine Ent.catI ?_; rw [hs]; refine Ent.c (clerkP_close kb rfl) ?_; first | exact Ent.rfl | (repeat (first | exact Ent.rfl | refine Ent.c (SelB.ent) ?_ | refine Ent.c (SelS.ent) ?_ | refine Ent.cN ?_ | refine Ent.c (SelX.ent) ?_ | refine Ent.dropR ?_))
      · rw [hs]; rfl
    · skip
      have h1 := of_decide_eq_false h2
      refine r_seq ?_
      refine r_region ?_
      refine p_eql rfl rfl rfl ?_
      refine p_as rfl rfl ?_
      refine o_keep (.c 0 rfl (.c 3 rfl (.c 4 rfl (.c 5 rfl (.c 6 rfl (.c 40 rfl .n)))))) ?_
      refine r_cond _ rfl (fun h3 => ?_) (fun h3 => ?_)
      · skip
        have h3 := of_decide_eq_true h3
        refine r_seq ?_
        refine r_seq ?_
        refine r_plan (_) ([keepP kb k]) mo (.c 0 rfl (.c 3 rfl (.c 4 rfl (.c 5 rfl (.c 6 rfl .n))))) (SelX.ent) ?_
        refine qm_q (i := 0) (l := [.k 0]) rfl rfl rfl rfl (by kernel_rfl) rfl (fun He => PV.rq (pv_mv (.n rfl) rfl rfl (fun _ => rfl))) ?_
        refine qm_q (i := 1) (l := [.o 0]) rfl rfl rfl rfl (by kernel_rfl) rfl (fun He => PV.rq (pv_nilp (.n rfl) rfl rfl (fun _ => rfl))) ?_
        refine qm_q (i := 2) (l := [.o 1]) rfl rfl rfl rfl (by kernel_rfl) rfl (fun He => PV.rq (pv_fa fa_40_0 (.n rfl) rfl rfl (fun _ => rfl))) ?_
        refine qm_q (i := 3) (l := [.o 2]) rfl rfl rfl rfl (by kernel_rfl) rfl (fun He => RV.rq (q_ldc tc_38 (.n rfl) rfl rfl (fun _ => rfl) (by rfl))) ?_
        refine qm_q (i := 4) (l := [.k 3]) rfl rfl rfl rfl (by kernel_rfl) rfl (fun He => PV.rq (pv_fa fa_31_1 (.n rfl) rfl rfl (fun _ => rfl))) ?_
        refine qm_q (i := 5) (l := [.o 4]) rfl rfl rfl rfl (by kernel_rfl) rfl (fun He => RV.rq (q_ldc tc_3 (.n rfl) rfl rfl (fun _ => rfl) (by rfl))) ?_
        refine qm_q (i := 6) (l := [.k 3]) rfl rfl rfl rfl (by kernel_rfl) rfl (fun He => PV.rq (pv_fa fa_31_4 (.n rfl) rfl rfl (fun _ => rfl))) ?_
        refine qm_q (i := 7) (l := [.o 6]) rfl rfl rfl rfl (by kernel_rfl) rfl (fun He => RV.rq (q_ldc tc_4 (.n rfl) rfl rfl (fun _ => rfl) (by rfl))) ?_
        refine qm_q (i := 8) (l := [.o 5, .o 7]) rfl rfl rfl rfl (by kernel_rfl) rfl (fun He => PV.rq (pv_build zr_101 pl_101 (.n rfl) rfl (.c rfl (fun _ => rfl) rfl rfl rfl (by repeat constructor) (.c rfl (fun _ => rfl) rfl rfl rfl (by repeat constructor) (.c rfl (fun _ => rfl) rfl rfl rfl (by repeat constructor) .n))))) ?_
        refine qb_callc (i := 9) [.o 3, .o 8] (by kernel_rfl) (by kernel_rfl) rfl rfl rfl rfl (by kernel_rfl) (by kernel_rfl) (by kernel_rfl) ⟨_, .n rfl, rfl⟩ cf_50 rfl (.c rfl (.c rfl .n)) (keep_Do _ kb k hI ⟨2, m.deal, 0, 0, m.yes⟩) ?_
        refine qm_q (i := 10) (l := [.o 9]) rfl rfl rfl rfl (by kernel_rfl) rfl (fun He => PV.rq (pv_neq (.n rfl) rfl rfl rfl (fun _ => ⟨rfl, rfl⟩))) ?_
        refine qm_n (by kernel_rfl) (by kernel_rfl) (by kernel_rfl) (by kernel_rfl) (.c 4 rfl (.c 5 rfl (.c 6 rfl (.c 52 rfl .n)))) ?_
        refine r_cond _ rfl (fun h4 => ?_) (fun h4 => ?_)
        · skip
          have hs := ansK_3 h0 h1 h3 (by simpa using h4)
          refine r_seq ?_
          refine r_region ?_
          refine p_build zr_31 pl_31 (.n) rfl ?_
          refine p_store (.ofA ta_31) rfl rfl rfl (by first | rfl | exact rfl) (by first | rfl | exact rfl) (Ins.whole (by first | rfl | (simp only [List.length_map, List.length_cons, List.length_nil]; omega) | (simp [*]; done) | (simp [*]; rfl))) ?_
          refine p_as rfl rfl ?_
          refine o_keep (.c 4 rfl (.c 5 rfl (.c 6 rfl .n))) ?_
          refine r_retv hF rfl (.c (.a rfl ta_31 (.blk (SelB.ent) (Tk.all rfl)) rfl) (.c (.t rfl) .n)) ?_ ?_
          · refine Ent.catI ?_; rw [hs]; refine Ent.c (clerkP_close kb rfl) ?_; first | exact Ent.rfl | (repeat (first | exact Ent.rfl | refine Ent.c (SelB.ent) ?_ | refine Ent.c (SelS.ent) ?_ | refine Ent.cN ?_ | refine Ent.c (SelX.ent) ?_ | refine Ent.dropR ?_))
          · rw [hs]; rfl
        · skip
          have hs := ansK_4 h0 h1 h3 (by simpa using h4)
          refine r_skip ?_
          refine r_seq ?_
          refine r_region ?_
          refine p_fa fa_31_0 rfl rfl ?_
          refine p_store (.ofC tc_3) rfl rfl rfl rfl rfl (by repeat constructor) ?_
          refine o_keep (.c 4 rfl (.c 5 rfl (.c 6 rfl .n))) ?_
          refine r_seq ?_
          refine r_region ?_
          refine p_lda ta_31 rfl (by exact (Tk.all rfl)) rfl ?_
          refine p_store (.ofA ta_31) rfl rfl rfl (by first | rfl | exact rfl) (by first | rfl | exact rfl) (Ins.whole (by first | rfl | (simp only [List.length_map, List.length_cons, List.length_nil]; omega) | (simp [*]; done) | (simp [*]; rfl))) ?_
          refine p_as rfl rfl ?_
          refine o_keep (.c 4 rfl (.c 5 rfl .n)) ?_
          refine r_retv hF rfl (.c (.a rfl ta_31 (.blk (SelB.ent) (Tk.all rfl)) rfl) (.c (.t rfl) .n)) ?_ ?_
          · refine Ent.catI ?_; rw [hs]; refine Ent.c (clerkP_close kb rfl) ?_; first | exact Ent.rfl | (repeat (first | exact Ent.rfl | refine Ent.c (SelB.ent) ?_ | refine Ent.c (SelS.ent) ?_ | refine Ent.cN ?_ | refine Ent.c (SelX.ent) ?_ | refine Ent.dropR ?_))
          · rw [hs]; rfl
      · skip
        have hs := ansK_5 h0 h1 (of_decide_eq_false h3)
        refine r_skip ?_
        refine r_end ?_
        refine r_seq ?_
        refine r_region ?_
        refine p_build zr_31 pl_31 (.n) rfl ?_
        refine p_store (.ofA ta_31) rfl rfl rfl (by first | rfl | exact rfl) (by first | rfl | exact rfl) (Ins.whole (by first | rfl | (simp only [List.length_map, List.length_cons, List.length_nil]; omega) | (simp [*]; done) | (simp [*]; rfl))) ?_
        refine p_as rfl rfl ?_
        refine o_keep (.c 4 rfl (.c 5 rfl .n)) ?_
        refine r_retv hF rfl (.c (.a rfl ta_31 (.blk (SelB.ent) (Tk.all rfl)) rfl) (.c (.t rfl) .n)) ?_ ?_
        · refine Ent.catI ?_; rw [hs]; refine Ent.c (clerkP_close kb rfl) ?_; first | exact Ent.rfl | (repeat (first | exact Ent.rfl | refine Ent.c (SelB.ent) ?_ | refine Ent.c (SelS.ent) ?_ | refine Ent.cN ?_ | refine Ent.c (SelX.ent) ?_ | refine Ent.dropR ?_))
        · rw [hs]; rfl

end Go.Proofs.Ytmakdilmibjpbac
