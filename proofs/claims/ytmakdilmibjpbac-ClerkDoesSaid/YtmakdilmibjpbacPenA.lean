/- The walks of PenA: written by a program of ours (gen.py) over the engine. -/
import Derived.Test.YtmakdilmibjpbacPlain
import Derived.Test.YtmakdilmibjpbacFacts
import Derived.Test.YtmakdilmibjpbacPenW2
import Derived.Test.YtmakdilmibjpbacClerkL
namespace Go.Proofs.Ytmakdilmibjpbac
open Go Go.RowKit
set_option linter.unusedVariables false
set_option linter.unusedSimpArgs false
set_option maxRecDepth 20000

theorem pen_Answer (M : Amb) (b : Nat) (k : KeepS) (hI : KInv k) (m : Mail) : FnC Try.prog M 24 [ptr b, vM m] (.tuple #[vM ((ansK k m).2.getD Mail.z0), .bool (ansK k m).2.isSome]) [penP b k] [penP b (ansK k m).1] := by
  have hno : k.shop.no = k.no := hI.no
  refine fnc_intro Try.func24 rfl Try.ntmps24 rfl fun R F hF => ?_
  refine r_cat ?_
  refine r_ex2 fun bb lv => ?_
  refine r_cat ?_
  refine r_rd lv fun hrl => ?_
  refine r_sel (boothP bb k.shop) ?_
  refine r_ex3 fun hv ov dv => ?_
  refine r_cat ?_
  refine r_seq ?_
  refine r_region ?_
  refine p_box rfl rfl rfl fun b3 => ?_
  refine p_alloc zr_31 rfl fun b4 => ?_
  refine p_as rfl rfl ?_
  refine o_keep (.c 0 rfl (.c 3 rfl (.c 4 rfl (.c 5 rfl .n)))) ?_
  refine r_seq ?_
  refine r_seq ?_
  refine r_plan _ [] mo (.c 0 rfl (.c 3 rfl (.c 4 rfl (.c 5 rfl .n)))) Ent.rfl ?_
  refine qm_q (i := 0) (l := [.k 3]) rfl rfl rfl rfl (by kernel_rfl) rfl (fun He => PV.rq (pv_fa fa_31_2 (.n rfl) rfl rfl (fun _ => rfl))) ?_
  refine qm_q (i := 1) (l := [.o 0]) rfl rfl rfl rfl (by kernel_rfl) rfl (fun He => RV.rq (q_ldc tc_3 (.n rfl) rfl rfl (fun _ => rfl) (by rfl))) ?_
  refine qm_q (i := 2) (l := [.k 0]) rfl rfl rfl rfl (by kernel_rfl) rfl (fun He => PV.rq (pv_mv (.n rfl) rfl rfl (fun _ => rfl))) ?_
  refine qm_q (i := 3) (l := [.o 2]) rfl rfl rfl rfl (by kernel_rfl) rfl (fun He => PV.rq (pv_nilp (.n rfl) rfl rfl (fun _ => rfl))) ?_
  refine qm_q (i := 4) (l := [.o 3]) rfl rfl rfl rfl (by kernel_rfl) rfl (fun He => PV.rq (pv_fa fa_60_0 (.n rfl) rfl rfl (fun _ => rfl))) ?_
  refine qm_q (i := 5) (l := [.o 4]) rfl rfl rfl rfl (by kernel_rfl) rfl (fun He => RV.rq (q_ldc tc_58 (.n rfl) rfl rfl (fun _ => rfl) (by rfl))) ?_
  refine qm_q (i := 6) (l := [.o 5]) rfl rfl rfl rfl (by kernel_rfl) rfl (fun He => PV.rq (pv_nilp (.n rfl) rfl rfl (fun _ => rfl))) ?_
  refine qm_q (i := 7) (l := [.o 6]) rfl rfl rfl rfl (by kernel_rfl) rfl (fun He => PV.rq (pv_fa fa_64_0 (.n rfl) rfl rfl (fun _ => rfl))) ?_
  refine qm_q (i := 8) (l := [.o 7]) rfl rfl rfl rfl (by kernel_rfl) rfl (fun He => RV.rq (q_ldc tc_3 (.n rfl) rfl rfl (fun _ => rfl) (by rfl))) ?_
  refine qm_q (i := 9) (l := [.o 1, .o 8]) rfl rfl rfl rfl (by kernel_rfl) rfl (fun He => PV.rq (pv_neq (.n rfl) rfl rfl rfl (fun _ => ⟨rfl, rfl⟩))) ?_
  refine qm_n (by kernel_rfl) (by kernel_rfl) (by kernel_rfl) (by kernel_rfl) (.c 0 rfl (.c 3 rfl (.c 4 rfl (.c 5 rfl (.c 16 rfl .n))))) ?_
  refine r_cond _ rfl (fun h1 => ?_) (fun h1 => ?_)
  · skip
    have hs := ansK_1 (k := k) (m := m) (by rw [hno] at h1; simpa using h1)
    refine r_seq ?_
    refine r_region ?_
    refine p_build zr_31 pl_31 (.n) rfl ?_
    refine p_store (.ofA ta_31) rfl rfl rfl (by first | rfl | exact rfl) (by first | rfl | exact rfl) (Ins.whole (by first | rfl | (simp only [List.length_map, List.length_cons, List.length_nil]; omega) | (simp [*]; done) | (simp [*]; rfl))) ?_
    refine p_as rfl rfl ?_
    refine o_keep (.c 0 rfl (.c 3 rfl (.c 4 rfl (.c 5 rfl .n)))) ?_
    refine r_retv hF rfl (.c (.a rfl ta_31 (.blk (SelB.ent) (Tk.all rfl)) rfl) (.c (.t rfl) .n)) ?_ ?_
    · refine Ent.catI ?_; rw [hs]; refine Ent.tr (boothP_close (b := bb) (s := k.shop) hv ov dv rfl rfl rfl rfl) ?_; refine Ent.c (penP_close bb lv rfl rfl) ?_; first | exact Ent.rfl | (repeat (first | exact Ent.rfl | refine Ent.c (SelB.ent) ?_ | refine Ent.c (SelS.ent) ?_ | refine Ent.cN ?_ | refine Ent.c (SelX.ent) ?_ | refine Ent.dropR ?_))
    · rw [hs]; rfl
  · skip
    have h0 : ¬ m.shop ≠ k.no := by rw [hno] at h1; simpa using h1
    refine r_skip ?_
    refine r_seq ?_
    refine r_seq ?_
    refine r_region ?_
    refine p_fa fa_31_0 rfl rfl ?_
    refine p_ldc tc_3 rfl (by rfl) rfl ?_
    refine p_eql rfl rfl rfl ?_
    refine o_keep (.c 0 rfl (.c 3 rfl (.c 4 rfl (.c 5 rfl (.c 20 rfl .n))))) ?_
    refine r_cond _ rfl (fun h2 => ?_) (fun h2 => ?_)
    · skip
      have hs := ansK_2 h0 (of_decide_eq_true h2)
      refine r_seq ?_
      refine r_ent (boothP_close (b := bb) (s := k.shop) hv ov dv rfl rfl rfl rfl) ?_
      refine r_ent (penP_close (b := b) (k := k) bb lv rfl rfl) ?_
      refine r_region ?_
      refine p_mv rfl rfl ?_
      refine p_fa fa_31_1 rfl rfl ?_
      refine p_ldc tc_3 rfl (by rfl) rfl ?_
      refine p_fa fa_31_3 rfl rfl ?_
      refine p_fa fa_29_0 rfl rfl ?_
      refine p_ldc tc_3 rfl (by rfl) rfl ?_
      refine p_fa fa_31_3 rfl rfl ?_
      refine p_fa fa_29_1 rfl rfl ?_
      refine p_ldc tc_3 rfl (by rfl) rfl ?_
      refine p_build zr_101 pl_101 (.c rfl (fun _ => rfl) rfl rfl rfl (by repeat constructor) (.c rfl (fun _ => rfl) rfl rfl rfl (by repeat constructor) (.c rfl (fun _ => rfl) rfl rfl rfl (by repeat constructor) (.c rfl (fun _ => rfl) rfl rfl rfl (by repeat constructor) .n)))) rfl ?_
      refine p_callc cf_55 (.c rfl (.c rfl .n)) rfl (pen_Do _ b k hI ⟨1, m.deal, m.ctr, m.dl, false⟩) ?_
      refine p_as rfl rfl ?_
      refine o_keep (.c 0 rfl (.c 3 rfl (.c 4 rfl (.c 5 rfl (.c 6 rfl .n))))) ?_
      refine r_seq ?_
      refine r_region ?_
      refine p_fa fa_31_1 rfl rfl ?_
      refine p_ldc tc_3 rfl (by rfl) rfl ?_
      refine p_fa fa_31_2 rfl rfl ?_
      refine p_ldc tc_3 rfl (by rfl) rfl ?_
      refine p_fa fa_31_3 rfl rfl ?_
      refine p_lda ta_29 rfl (by exact (.s (.s .z))) rfl ?_
      refine p_mv rfl rfl ?_
      refine p_eql rfl rfl rfl ?_
      refine p_build zr_31 pl_31 (.c rfl (fun _ => rfl) rfl rfl rfl (by repeat constructor) (.c rfl (fun _ => rfl) rfl rfl rfl (by repeat constructor) (.c rfl (fun _ => rfl) rfl rfl rfl (by repeat constructor) (.c rfl (fun _ => rfl) rfl rfl rfl (by repeat constructor) (.c rfl (fun _ => rfl) rfl rfl rfl (by repeat constructor) .n))))) rfl ?_
      refine p_store (.ofA ta_31) rfl rfl rfl (by first | rfl | exact rfl) (by first | rfl | exact rfl) (Ins.whole (by first | rfl | (simp only [List.length_map, List.length_cons, List.length_nil]; omega) | (simp [*]; done) | (simp [*]; rfl))) ?_
      refine p_as rfl rfl ?_
      refine o_keep (.c 0 rfl (.c 3 rfl (.c 4 rfl (.c 5 rfl .n)))) ?_
      refine r_retv hF rfl (.c (.a rfl ta_31 (.blk (SelB.ent) (Tk.all rfl)) rfl) (.c (.t rfl) .n)) ?_ ?_
      · refine Ent.catI ?_; rw [hs]; refine Ent.c (SelX.ent) ?_; first | exact Ent.rfl | (repeat (first | exact Ent.rfl | refine Ent.c (SelB.ent) ?_ | refine Ent.c (SelS.ent) ?_ | refine Ent.cN ?_ | refine Ent.c (SelX.ent) ?_ | refine Ent.dropR ?_))
      · rw [hs]; rfl
    · skip
      have h1 := of_decide_eq_false h2
      refine r_skip ?_
      refine r_seq ?_
      refine r_seq ?_
      refine r_ent (boothP_close (b := bb) (s := k.shop) hv ov dv rfl rfl rfl rfl) ?_
      refine r_ent (penP_close (b := b) (k := k) bb lv rfl rfl) ?_
      refine r_region ?_
      refine p_fa fa_31_0 rfl rfl ?_
      refine p_ldc tc_3 rfl (by rfl) rfl ?_
      refine p_eql rfl rfl rfl ?_
      refine p_mv rfl rfl ?_
      refine o_split (t := 44) rfl (fun g3 => ?_) (fun g3 => ?_)
      · skip
        have h3 : m.kind = 3 := by simpa using g3
        refine o_g (.s rfl rfl rfl) rfl ?_
        refine p_mv rfl rfl ?_
        refine o_g (.s rfl rfl rfl) rfl ?_
        refine p_fa fa_31_1 rfl rfl ?_
        refine o_g (.s rfl rfl rfl) rfl ?_
        refine p_ldc tc_3 rfl (by rfl) rfl ?_
        refine o_g (.s rfl rfl rfl) rfl ?_
        refine p_fa fa_31_4 rfl rfl ?_
        refine o_g (.s rfl rfl rfl) rfl ?_
        refine p_ldc tc_4 rfl (by rfl) rfl ?_
        refine o_g (.s rfl rfl rfl) rfl ?_
        refine p_build zr_101 pl_101 (.c rfl (fun _ => rfl) rfl rfl rfl (by repeat constructor) (.c rfl (fun _ => rfl) rfl rfl rfl (by repeat constructor) (.c rfl (fun _ => rfl) rfl rfl rfl (by repeat constructor) .n))) rfl ?_
        refine o_g (.s rfl rfl rfl) rfl ?_
        refine p_callc cf_55 (.c rfl (.c rfl .n)) rfl (pen_Do _ b k hI ⟨2, m.deal, 0, 0, m.yes⟩) ?_
        refine o_g (.s rfl rfl rfl) rfl ?_
        refine p_eql rfl rfl rfl ?_
        refine l_op (x_p (pv_and (.n rfl) rfl rfl rfl (fun _ => ⟨rfl, fun hc => by first | rfl | (rw [hc]; rfl) | simp_all⟩)) rfl rfl ?_)
        refine o_keep (.c 3 rfl (.c 4 rfl (.c 5 rfl (.c 53 rfl .n)))) ?_
        refine r_cond _ rfl (fun h4 => ?_) (fun h4 => ?_)
        · skip
          have hs := ansK_4 h0 h1 h3 (by simpa using h4)
          refine r_seq ?_
          refine r_region ?_
          refine p_fa fa_31_1 rfl rfl ?_
          refine p_ldc tc_3 rfl (by rfl) rfl ?_
          refine p_fa fa_31_2 rfl rfl ?_
          refine p_ldc tc_3 rfl (by rfl) rfl ?_
          refine p_fa fa_31_3 rfl rfl ?_
          refine p_lda ta_29 rfl (by exact (.s (.s .z))) rfl ?_
          refine p_fa fa_31_4 rfl rfl ?_
          refine p_ldc tc_4 rfl (by rfl) rfl ?_
          refine p_build zr_31 pl_31 (.c rfl (fun _ => rfl) rfl rfl rfl (by repeat constructor) (.c rfl (fun _ => rfl) rfl rfl rfl (by repeat constructor) (.c rfl (fun _ => rfl) rfl rfl rfl (by repeat constructor) (.c rfl (fun _ => rfl) rfl rfl rfl (by repeat constructor) (.c rfl (fun _ => rfl) rfl rfl rfl (by repeat constructor) .n))))) rfl ?_
          refine p_store (.ofA ta_31) rfl rfl rfl (by first | rfl | exact rfl) (by first | rfl | exact rfl) (Ins.whole (by first | rfl | (simp only [List.length_map, List.length_cons, List.length_nil]; omega) | (simp [*]; done) | (simp [*]; rfl))) ?_
          refine p_as rfl rfl ?_
          refine o_keep (.c 4 rfl (.c 5 rfl .n)) ?_
          refine r_retv hF rfl (.c (.a rfl ta_31 (.blk (SelB.ent) (Tk.all rfl)) rfl) (.c (.t rfl) .n)) ?_ ?_
          · refine Ent.catI ?_; rw [hs]; refine Ent.c (SelX.ent) ?_; first | exact Ent.rfl | (repeat (first | exact Ent.rfl | refine Ent.c (SelB.ent) ?_ | refine Ent.c (SelS.ent) ?_ | refine Ent.cN ?_ | refine Ent.c (SelX.ent) ?_ | refine Ent.dropR ?_))
          · rw [hs]; rfl
        · skip
          have hs := ansK_3 h0 h1 h3 (by simpa using h4)
          refine r_skip ?_
          refine r_seq ?_
          refine r_region ?_
          refine p_build zr_31 pl_31 (.n) rfl ?_
          refine p_store (.ofA ta_31) rfl rfl rfl (by first | rfl | exact rfl) (by first | rfl | exact rfl) (Ins.whole (by first | rfl | (simp only [List.length_map, List.length_cons, List.length_nil]; omega) | (simp [*]; done) | (simp [*]; rfl))) ?_
          refine p_as rfl rfl ?_
          refine o_keep (.c 4 rfl (.c 5 rfl .n)) ?_
          refine r_retv hF rfl (.c (.a rfl ta_31 (.blk (SelB.ent) (Tk.all rfl)) rfl) (.c (.t rfl) .n)) ?_ ?_
          · refine Ent.catI ?_; rw [hs]; refine Ent.c (SelX.ent) ?_; first | exact Ent.rfl | (repeat (first | exact Ent.rfl | refine Ent.c (SelB.ent) ?_ | refine Ent.c (SelS.ent) ?_ | refine Ent.cN ?_ | refine Ent.c (SelX.ent) ?_ | refine Ent.dropR ?_))
          · rw [hs]; rfl
      · skip
        have h3 : ¬ m.kind = 3 := by simpa using g3
        refine o_ng (.s rfl rfl rfl) rfl rfl ?_
        refine o_ng (.s rfl rfl rfl) rfl rfl ?_
        refine o_ng (.s rfl rfl rfl) rfl rfl ?_
        refine o_ng (.s rfl rfl rfl) rfl rfl ?_
        refine o_ng (.s rfl rfl rfl) rfl rfl ?_
        refine o_ng (.s rfl rfl rfl) rfl rfl ?_
        refine o_ng (.s rfl rfl rfl) rfl rfl ?_
        refine o_ng (.s rfl rfl rfl) rfl rfl ?_
        refine l_op (x_p (pv_andf (.n rfl) rfl rfl (fun _ => rfl)) rfl rfl ?_)
        refine o_keep (.c 3 rfl (.c 4 rfl (.c 5 rfl (.c 53 rfl .n)))) ?_
        refine r_cond _ rfl (fun h5 => ?_) (fun h5 => ?_)
        · simp at h5
        · skip
          have hs := ansK_5 h0 h1 h3
          refine r_skip ?_
          refine r_seq ?_
          refine r_region ?_
          refine p_build zr_31 pl_31 (.n) rfl ?_
          refine p_store (.ofA ta_31) rfl rfl rfl (by first | rfl | exact rfl) (by first | rfl | exact rfl) (Ins.whole (by first | rfl | (simp only [List.length_map, List.length_cons, List.length_nil]; omega) | (simp [*]; done) | (simp [*]; rfl))) ?_
          refine p_as rfl rfl ?_
          refine o_keep (.c 4 rfl (.c 5 rfl .n)) ?_
          refine r_retv hF rfl (.c (.a rfl ta_31 (.blk (SelB.ent) (Tk.all rfl)) rfl) (.c (.t rfl) .n)) ?_ ?_
          · refine Ent.catI ?_; rw [hs]; refine Ent.c (SelX.ent) ?_; first | exact Ent.rfl | (repeat (first | exact Ent.rfl | refine Ent.c (SelB.ent) ?_ | refine Ent.c (SelS.ent) ?_ | refine Ent.cN ?_ | refine Ent.c (SelX.ent) ?_ | refine Ent.dropR ?_))
          · rw [hs]; rfl

end Go.Proofs.Ytmakdilmibjpbac
