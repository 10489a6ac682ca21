/- The walks of PenA: written by a program of ours (gen.py) over the engine. -/
import Derived.Test.YtmakdilmibjpbacGreatPlain
import Derived.Test.YtmakdilmibjpbacGreatFacts
import Derived.Test.YtmakdilmibjpbacGreatPenW2
import Derived.Test.YtmakdilmibjpbacGreatClerkL
namespace Go.Proofs.YtmakdilmibjpbacGreat
open Go Go.RowKit
set_option linter.unusedVariables false
set_option linter.unusedSimpArgs false
set_option maxRecDepth 20000

theorem pen_Answer (M : Amb) (b : Nat) (k : KeepS) (hI : KInv k) (m : Mail) : FnC Tryz.prog M 72 [ptr b, vM m] (.tuple #[vM ((ansK k m).2.getD Mail.z0), .bool (ansK k m).2.isSome]) [penP b k] [penP b (ansK k m).1] := by
 have hno : k.shop.no = k.no := hI.no
 refine fnc_intro Tryz.func72 rfl Tryz.ntmps72 rfl fun R F hF => ?_
 refine r_cat ?_
 refine r_ex2 fun bb lv => ?_
 refine r_cat ?_
 refine r_rd lv fun hrl => ?_
 refine r_sel (boothP bb k.shop) ?_
 refine r_ex3 fun hv ov dv => ?_
 refine r_cat ?_
 refine r_sr (p_box rfl rfl rfl fun b3 => ?_)
 refine p_alloc zr_72 rfl fun b4 => ?_
 refine p_as rfl rfl (o_keep (.c 0 rfl (.c 3 rfl (.c 4 rfl (.c 5 rfl .n)))) (r_seq (r_seq ?_)))
 refine r_plan _ [] mo (.c 0 rfl (.c 3 rfl (.c 4 rfl (.c 5 rfl .n)))) Ent.rfl ?_
 refine qp 0 [.k 3] rfl rfl rfl rfl (by kernel_rfl) rfl (u_fa fa_72_2 rfl rfl rfl) (qr 1 [.o 0] rfl rfl rfl rfl (by kernel_rfl) rfl (fun He => u_ldc tc_3 rfl rfl rfl (by rfl)) ?_)
 refine qp 2 [.k 0] rfl rfl rfl rfl (by kernel_rfl) rfl (u_mv rfl rfl rfl) (qp 3 [.o 2] rfl rfl rfl rfl (by kernel_rfl) rfl (u_nil rfl rfl rfl) (qp 4 [.o 3] rfl rfl rfl rfl (by kernel_rfl) rfl (u_fa fa_83_0 rfl rfl rfl) (qr 5 [.o 4] rfl rfl rfl rfl (by kernel_rfl) rfl (fun He => u_ldc tc_76 rfl rfl rfl (by rfl)) ?_)))
 refine qp 6 [.o 5] rfl rfl rfl rfl (by kernel_rfl) rfl (u_nil rfl rfl rfl) (qp 7 [.o 6] rfl rfl rfl rfl (by kernel_rfl) rfl (u_fa fa_99_0 rfl rfl rfl) (qr 8 [.o 7] rfl rfl rfl rfl (by kernel_rfl) rfl (fun He => u_ldc tc_3 rfl rfl rfl (by rfl)) ?_))
 refine qp 9 [.o 1, .o 8] rfl rfl rfl rfl (by kernel_rfl) rfl (pv_neq (.n rfl) rfl rfl rfl (fun _ => ⟨rfl, rfl⟩)) ?_
 refine qm_n (by kernel_rfl) (by kernel_rfl) (by kernel_rfl) (by kernel_rfl) (.c 0 rfl (.c 3 rfl (.c 4 rfl (.c 5 rfl (.c 16 rfl .n))))) ?_
 refine r_cond _ rfl (fun h1 => ?_) (fun h1 => ?_)
 ·skip
  have hs := ansK_1 (k := k) (m := m) (by rw [hno] at h1; simpa using h1)
  refine r_sr ?_
  refine p_build zr_72 pl_72 (.n) rfl ?_
  refine p_store (.ofA ta_72) rfl rfl rfl (by first | rfl | exact rfl) (by first | rfl | exact rfl) (Ins.whole (by first | rfl | (simp only [List.length_map, List.length_cons, List.length_nil]; omega) | (simp [*]; done) | (simp [*]; rfl))) ?_
  refine p_as rfl rfl (o_keep (.c 0 rfl (.c 3 rfl (.c 4 rfl (.c 5 rfl .n)))) ?_)
  refine r_retv hF rfl (.c (.a rfl ta_72 (.blk (SelB.ent) (Tk.all rfl)) rfl) (.c (.t rfl) .n)) ?_ ?_
  ·refine Ent.catI ?_; rw [hs]; refine Ent.tr (boothP_close (b := bb) (s := k.shop) hv ov dv rfl rfl rfl rfl) ?_; refine Ent.c (penP_close bb lv rfl rfl) ?_; repeat first|exact eR|refine eB ?_|refine eS ?_|refine eN ?_|refine eX ?_|refine eD ?_
  ·rw [hs]; rfl
 ·skip
  have h0 : ¬ m.shop ≠ k.no := by rw [hno] at h1; simpa using h1
  refine r_skip (r_seq (r_sr (p_fa fa_72_0 rfl rfl (p_ldc tc_3 rfl (by rfl) rfl ?_))))
  refine p_eql rfl rfl rfl (o_keep (.c 0 rfl (.c 3 rfl (.c 4 rfl (.c 5 rfl (.c 20 rfl .n))))) (r_cond _ rfl (fun h2 => ?_) (fun h2 => ?_)))
  ·skip
   have hs := ansK_2 h0 (of_decide_eq_true h2)
   refine r_seq ?_
   refine r_ent (boothP_close (b := bb) (s := k.shop) hv ov dv rfl rfl rfl rfl) ?_
   refine r_ent (penP_close (b := b) (k := k) bb lv rfl rfl) ?_
   refine r_region (p_mv rfl rfl (p_fa fa_72_1 rfl rfl (p_ldc tc_3 rfl (by rfl) rfl ?_)))
   refine p_fa fa_72_3 rfl rfl (p_fa fa_42_0 rfl rfl (p_ldc tc_3 rfl (by rfl) rfl ?_))
   refine p_fa fa_72_3 rfl rfl (p_fa fa_42_1 rfl rfl (p_ldc tc_3 rfl (by rfl) rfl ?_))
   refine p_build zr_133 pl_133 (.c rfl (fun _ => rfl) rfl rfl rfl (by repeat constructor) (.c rfl (fun _ => rfl) rfl rfl rfl (by repeat constructor) (.c rfl (fun _ => rfl) rfl rfl rfl (by repeat constructor) (.c rfl (fun _ => rfl) rfl rfl rfl (by repeat constructor) .n)))) rfl ?_
   refine p_callc cf_94 (.c rfl (.c rfl .n)) rfl (pen_Do _ b k hI ⟨1, m.deal, m.ctr, m.dl, false⟩) ?_
   refine p_as rfl rfl (o_keep (.c 0 rfl (.c 3 rfl (.c 4 rfl (.c 5 rfl (.c 6 rfl .n))))) (r_sr (p_fa fa_72_1 rfl rfl (p_ldc tc_3 rfl (by rfl) rfl ?_))))
   refine p_fa fa_72_2 rfl rfl (p_ldc tc_3 rfl (by rfl) rfl ?_)
   refine p_fa fa_72_3 rfl rfl ?_
   refine p_lda ta_42 rfl (by exact (.s (.s .z))) rfl ?_
   refine p_mv rfl rfl (p_eql rfl rfl rfl ?_)
   refine p_build zr_72 pl_72 (.c rfl (fun _ => rfl) rfl rfl rfl (by repeat constructor) (.c rfl (fun _ => rfl) rfl rfl rfl (by repeat constructor) (.c rfl (fun _ => rfl) rfl rfl rfl (by repeat constructor) (.c rfl (fun _ => rfl) rfl rfl rfl (by repeat constructor) (.c rfl (fun _ => rfl) rfl rfl rfl (by repeat constructor) .n))))) rfl ?_
   refine p_store (.ofA ta_72) rfl rfl rfl (by first | rfl | exact rfl) (by first | rfl | exact rfl) (Ins.whole (by first | rfl | (simp only [List.length_map, List.length_cons, List.length_nil]; omega) | (simp [*]; done) | (simp [*]; rfl))) ?_
   refine p_as rfl rfl (o_keep (.c 0 rfl (.c 3 rfl (.c 4 rfl (.c 5 rfl .n)))) ?_)
   refine r_retv hF rfl (.c (.a rfl ta_72 (.blk (SelB.ent) (Tk.all rfl)) rfl) (.c (.t rfl) .n)) ?_ ?_
   ·refine Ent.catI ?_; rw [hs]; refine Ent.c (SelX.ent) ?_; repeat first|exact eR|refine eB ?_|refine eS ?_|refine eN ?_|refine eX ?_|refine eD ?_
   ·rw [hs]; rfl
  ·skip
   have h1 := of_decide_eq_false h2
   refine r_skip (r_seq (r_seq ?_))
   refine r_ent (boothP_close (b := bb) (s := k.shop) hv ov dv rfl rfl rfl rfl) ?_
   refine r_ent (penP_close (b := b) (k := k) bb lv rfl rfl) ?_
   refine r_region (p_fa fa_72_0 rfl rfl (p_ldc tc_3 rfl (by rfl) rfl ?_))
   refine p_eql rfl rfl rfl (p_mv rfl rfl ?_)
   refine o_split (t := 44) rfl (fun g3 => ?_) (fun g3 => ?_)
   ·skip
    have h3 : m.kind = 3 := by simpa using g3
    refine o_g (.s rfl rfl rfl) rfl (p_mv rfl rfl (o_g (.s rfl rfl rfl) rfl (p_fa fa_72_1 rfl rfl (o_g (.s rfl rfl rfl) rfl (p_ldc tc_3 rfl (by rfl) rfl ?_)))))
    refine o_g (.s rfl rfl rfl) rfl (p_fa fa_72_4 rfl rfl (o_g (.s rfl rfl rfl) rfl (p_ldc tc_4 rfl (by rfl) rfl ?_)))
    refine o_g (.s rfl rfl rfl) rfl ?_
    refine p_build zr_133 pl_133 (.c rfl (fun _ => rfl) rfl rfl rfl (by repeat constructor) (.c rfl (fun _ => rfl) rfl rfl rfl (by repeat constructor) (.c rfl (fun _ => rfl) rfl rfl rfl (by repeat constructor) .n))) rfl ?_
    refine o_g (.s rfl rfl rfl) rfl ?_
    refine p_callc cf_94 (.c rfl (.c rfl .n)) rfl (pen_Do _ b k hI ⟨2, m.deal, 0, 0, m.yes⟩) ?_
    refine o_g (.s rfl rfl rfl) rfl (p_eql rfl rfl rfl ?_)
    refine l_op (x_p (pv_and (.n rfl) rfl rfl rfl (fun _ => ⟨rfl, fun hc => by first | rfl | (rw [hc]; rfl) | simp_all⟩)) rfl rfl ?_)
    refine o_keep (.c 3 rfl (.c 4 rfl (.c 5 rfl (.c 53 rfl .n)))) (r_cond _ rfl (fun h4 => ?_) (fun h4 => ?_))
    ·skip
     have hs := ansK_4 h0 h1 h3 (by simpa using h4)
     refine r_sr (p_fa fa_72_1 rfl rfl (p_ldc tc_3 rfl (by rfl) rfl ?_))
     refine p_fa fa_72_2 rfl rfl (p_ldc tc_3 rfl (by rfl) rfl ?_)
     refine p_fa fa_72_3 rfl rfl ?_
     refine p_lda ta_42 rfl (by exact (.s (.s .z))) rfl ?_
     refine p_fa fa_72_4 rfl rfl (p_ldc tc_4 rfl (by rfl) rfl ?_)
     refine p_build zr_72 pl_72 (.c rfl (fun _ => rfl) rfl rfl rfl (by repeat constructor) (.c rfl (fun _ => rfl) rfl rfl rfl (by repeat constructor) (.c rfl (fun _ => rfl) rfl rfl rfl (by repeat constructor) (.c rfl (fun _ => rfl) rfl rfl rfl (by repeat constructor) (.c rfl (fun _ => rfl) rfl rfl rfl (by repeat constructor) .n))))) rfl ?_
     refine p_store (.ofA ta_72) rfl rfl rfl (by first | rfl | exact rfl) (by first | rfl | exact rfl) (Ins.whole (by first | rfl | (simp only [List.length_map, List.length_cons, List.length_nil]; omega) | (simp [*]; done) | (simp [*]; rfl))) ?_
     refine p_as rfl rfl (o_keep (.c 4 rfl (.c 5 rfl .n)) ?_)
     refine r_retv hF rfl (.c (.a rfl ta_72 (.blk (SelB.ent) (Tk.all rfl)) rfl) (.c (.t rfl) .n)) ?_ ?_
     ·refine Ent.catI ?_; rw [hs]; refine Ent.c (SelX.ent) ?_; repeat first|exact eR|refine eB ?_|refine eS ?_|refine eN ?_|refine eX ?_|refine eD ?_
     ·rw [hs]; rfl
    ·skip
     have hs := ansK_3 h0 h1 h3 (by simpa using h4)
     refine r_skip (r_sr ?_)
     refine p_build zr_72 pl_72 (.n) rfl ?_
     refine p_store (.ofA ta_72) rfl rfl rfl (by first | rfl | exact rfl) (by first | rfl | exact rfl) (Ins.whole (by first | rfl | (simp only [List.length_map, List.length_cons, List.length_nil]; omega) | (simp [*]; done) | (simp [*]; rfl))) ?_
     refine p_as rfl rfl (o_keep (.c 4 rfl (.c 5 rfl .n)) ?_)
     refine r_retv hF rfl (.c (.a rfl ta_72 (.blk (SelB.ent) (Tk.all rfl)) rfl) (.c (.t rfl) .n)) ?_ ?_
     ·refine Ent.catI ?_; rw [hs]; refine Ent.c (SelX.ent) ?_; repeat first|exact eR|refine eB ?_|refine eS ?_|refine eN ?_|refine eX ?_|refine eD ?_
     ·rw [hs]; rfl
   ·skip
    have h3 : ¬ m.kind = 3 := by simpa using g3
    refine o_ng (.s rfl rfl rfl) rfl rfl (o_ng (.s rfl rfl rfl) rfl rfl (o_ng (.s rfl rfl rfl) rfl rfl (o_ng (.s rfl rfl rfl) rfl rfl (o_ng (.s rfl rfl rfl) rfl rfl (o_ng (.s rfl rfl rfl) rfl rfl (o_ng (.s rfl rfl rfl) rfl rfl (o_ng (.s rfl rfl rfl) rfl rfl ?_)))))))
    refine l_op (x_p (pv_andf (.n rfl) rfl rfl (fun _ => rfl)) rfl rfl (o_keep (.c 3 rfl (.c 4 rfl (.c 5 rfl (.c 53 rfl .n)))) (r_cond _ rfl (fun h5 => ?_) (fun h5 => ?_))))
    ·simp at h5
    ·skip
     have hs := ansK_5 h0 h1 h3
     refine r_skip (r_sr ?_)
     refine p_build zr_72 pl_72 (.n) rfl ?_
     refine p_store (.ofA ta_72) rfl rfl rfl (by first | rfl | exact rfl) (by first | rfl | exact rfl) (Ins.whole (by first | rfl | (simp only [List.length_map, List.length_cons, List.length_nil]; omega) | (simp [*]; done) | (simp [*]; rfl))) ?_
     refine p_as rfl rfl (o_keep (.c 4 rfl (.c 5 rfl .n)) ?_)
     refine r_retv hF rfl (.c (.a rfl ta_72 (.blk (SelB.ent) (Tk.all rfl)) rfl) (.c (.t rfl) .n)) ?_ ?_
     ·refine Ent.catI ?_; rw [hs]; refine Ent.c (SelX.ent) ?_; repeat first|exact eR|refine eB ?_|refine eS ?_|refine eN ?_|refine eX ?_|refine eD ?_
     ·rw [hs]; rfl

end Go.Proofs.YtmakdilmibjpbacGreat
