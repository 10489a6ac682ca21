/- The walks of ClerkW: written by a program of ours (gen.py) over the engine. -/
import Derived.Test.YtmakdilmibjpbaaGreatDoorWants
import Derived.Test.YtmakdilmibjpbaaGreatDoorFacts
import Derived.Test.YtmakdilmibjpbaaGreatDoorDeskP
import Derived.Test.YtmakdilmibjpbaaGreatDoorKeepW2
namespace Go.Proofs.YtmakdilmibjpbaaGreatDoor
open Go Go.RowKit
set_option linter.unusedVariables false
set_option linter.unusedSimpArgs false
set_option maxRecDepth 20000
def cNewP (o:Option ShopS)(no:Int)(ws:List Int)(x:Nat):List HP:=match o with|none=>[]|some s=>[clerkP x ⟨no,ws,s,[]⟩]
theorem clerk_New (M:Amb)(no:Int)(ws:List Int)(h6:ws.length=6):FnE (α:=Nat) Tryz.prog M 21 [.int .i64 no,.agg (ws.map vI).toArray] [] (fun x=>newVal (newS no ws) x) (fun x=>cNewP (newS no ws) no ws x):=by
 refine fne_intro Tryz.func21 rfl Tryz.ntmps21 rfl fun R F hF=>?_
 show Run _ _ _ _ _ _ R
 refine r_sr (p_box rfl rfl rfl fun b3=>?_)
 refine p_as rfl rfl (o_keep (kp [0,3,4] rfl) (r_seq ?_))
 rcases hn:newS no ws with _|s
 ·skip
  refine r_region (p_mv rfl rfl ?_)
  refine p_lda ta_38 rfl (by exact (Tk.all (by first|rfl|assumption|(simp only[List.drop_zero,List.length_map];assumption)|(simp[*];done)))) rfl ?_
  refine p_callc cf_45 (.c rfl (.c rfl .n)) rfl (keep_New_none _ no ws h6 hn) ?_
  refine p_as rfl rfl (o_keep (kp [0,4,5] rfl) (r_seq (r_sr (p_mv rfl rfl (l_op (x_p (pv_peqn Tryz.underlying122 (.n rfl) rfl rfl rfl fS) rfl rfl (o_keep (kp [0,4,5,10] rfl) (r_cond _ rfl (fun h1=>?_) (fun h1=>?_)))))))))
  ·skip
   refine r_sr (p_as rfl rfl (o_keep (kp [0,4,5] rfl) ?_))
   refine r_rete (0) hF rfl (.c (.t rfl) .n) ?_ ?_
   ·show Ent _ (cNewP _ _ _ _++R);rw[hn];show Ent _ R;apply eI;repeat constructor
   ·rw[hn];rfl
  ·simp at h1
 ·skip
  refine r_region (p_mv rfl rfl ?_)
  refine p_lda ta_38 rfl (by exact (Tk.all (by first|rfl|assumption|(simp only[List.drop_zero,List.length_map];assumption)|(simp[*];done)))) rfl ?_
  refine p_calle cf_45 (.c rfl (.c rfl .n)) rfl (keep_New_some _ no ws h6 hn) fun kb=>?_
  refine o_cat ?_
  refine p_as rfl rfl (o_keep (kp [0,4,5] rfl) (r_seq (r_sr (p_mv rfl rfl (l_op (x_p (pv_peqn Tryz.underlying122 (.n rfl) rfl rfl rfl fS) rfl rfl (o_keep (kp [0,4,5,10] rfl) (r_cond _ rfl (fun h2=>?_) (fun h2=>?_)))))))))
  ·simp at h2
  ·skip
   refine r_skip (r_sr (p_mv rfl rfl (p_mv rfl rfl ?_)))
   refine p_build zr_125 pl_125 (.c rfl fR rfl rfl rfl (by repeat constructor) (.c rfl fR rfl rfl rfl (by repeat constructor) .n)) rfl ?_
   refine p_box rfl rfl rfl fun b14=>?_
   refine p_as rfl rfl (o_keep (kp [4] rfl) ?_)
   refine r_rete (b14) hF rfl (.c (.t rfl) .n) ?_ ?_
   ·show Ent _ (cNewP _ _ _ _++R);rw[hn];show Ent _ (clerkP b14 _::R);refine Ent.c (clerkP_close kb rfl) ?_;apply eI;repeat constructor
   ·rw[hn];rfl
theorem clerk_New_none (M:Amb)(no:Int)(ws:List Int)(h6:ws.length=6)(h:newS no ws=none):FnC Tryz.prog M 21 [.int .i64 no,.agg (ws.map vI).toArray] (.pointer Option.none) [] []:=fun R w ho=>
  (clerk_New M no ws h6 R w ho).mono fun _ _ ⟨v,H',e,⟨x,h1,h2⟩,ho'⟩=>⟨v,H',e,⟨by rw[h1,h];rfl,by rw[h2,h];rfl⟩,ho'⟩
theorem clerk_New_some (M:Amb)(no:Int)(ws:List Int)(h6:ws.length=6){s:ShopS}(h:newS no ws=some s):FnE (α:=Nat) Tryz.prog M 21 [.int .i64 no,.agg (ws.map vI).toArray] [] (fun x=>ptr x) (fun x=>[clerkP x ⟨no,ws,s,[]⟩]):=fun R w ho=>
  (clerk_New M no ws h6 R w ho).mono fun _ _ ⟨v,H',e,⟨x,h1,h2⟩,ho'⟩=>⟨v,H',e,⟨x,by rw[h1,h];rfl,by rw[h2,h];rfl⟩,ho'⟩
theorem clerk_Answer (M:Amb)(b:Nat)(k:KeepS)(hI:KInv k)(m:Mail):FnC Tryz.prog M 141 [ptr b,vM m] (.tuple #[vM ((ansK k m).2.getD Mail.z0),.bool (ansK k m).2.isSome]) [clerkP b k] [clerkP b (ansK k m).1]:=by
 refine fnc_intro Tryz.func141 rfl Tryz.ntmps141 rfl fun R F hF=>?_
 refine r_cat ?_
 refine r_ex fun kb=>?_
 refine r_cat ?_
 refine r_sr (p_box rfl rfl rfl fun b3=>?_)
 refine p_alloc zr_139 rfl fun b4=>?_
 refine p_as rfl rfl (o_keep (kp [0,3,4,5] rfl) (r_seq (r_seq ?_)))
 refine r_plan _ [] mo (kp [0,3,4,5] rfl) Ent.rfl ?_
 refine yp 0 [.k 3] rfl rfl (by kernel_rfl) (u_fa fa_139_2 rfl rfl rfl) (yr 1 [.o 0] rfl rfl (by kernel_rfl) (fun He=>u_ldc tc_3 rfl rfl rfl (by rfl)) ?_)
 refine yp 2 [.k 0] rfl rfl (by kernel_rfl) (u_mv rfl rfl rfl) (yp 3 [.o 2] rfl rfl (by kernel_rfl) (u_nil rfl rfl rfl) (yp 4 [.o 3] rfl rfl (by kernel_rfl) (u_fa fa_125_1 rfl rfl rfl) (yr 5 [.o 4] rfl rfl (by kernel_rfl) (fun He=>u_ldc tc_3 rfl rfl rfl (by rfl)) ?_)))
 refine yp 6 [.o 1,.o 5] rfl rfl (by kernel_rfl) (pv_neq (.n rfl) rfl rfl rfl fS) ?_
 refine qm_n (by kernel_rfl) (by kernel_rfl) (by kernel_rfl) (by kernel_rfl) (kp [0,3,4,5,14] rfl) ?_
 refine r_cond _ rfl (fun h1=>?_) (fun h1=>?_)
 ·skip
  have hs:=ansK_1 (k:=k) (m:=m) (by simpa using h1)
  refine r_sr ?_
  refine p_build zr_139 pl_139 (.n) rfl ?_
  refine p_store (.ofA ta_139) rfl rfl rfl rfl rfl (Ins.whole rfl) ?_
  refine p_as rfl rfl (o_keep (kp [0,3,4,5] rfl) ?_)
  refine r_retv hF rfl (.c (.a rfl ta_139 (.blk (SelB.ent) (Tk.all rfl)) rfl) (.c (.t rfl) .n)) ?_ ?_
  ·refine Ent.catI ?_;rw[hs];refine Ent.c (clerkP_close kb rfl) ?_;apply eI;repeat constructor
  ·rw[hs];rfl
 ·skip
  have h0:¬ m.shop≠k.no:=by simpa using h1
  refine r_skip (r_sr ?_)
  refine p_lda ta_139 rfl (Tk.all rfl) rfl ?_
  refine p_alloc zr_139 rfl fun b6=>?_
  refine p_store (.ofA ta_139) rfl rfl rfl (by first|rfl|exact rfl) (by first|rfl|exact rfl) (Ins.whole (by first|rfl|(simp only[List.length_map,List.length_cons,List.length_nil];omega)|(simp[*];done)|(simp[*];rfl))) ?_
  refine o_keep (.c 0 rfl (.c 3 rfl (.c 4 rfl (.c 5 rfl (.c 6 rfl .n))))) (r_seq (r_sr (p_fa fa_139_0 rfl rfl (p_ldc tc_3 rfl (by rfl) rfl ?_))))
  refine o_keep (kp [0,3,4,5,6,18] rfl) (r_block (r_sr (p_eql rfl rfl rfl (p_as rfl rfl (o_keep (kp [0,3,4,5,6,18,19] rfl) (r_cond _ rfl (fun h2=>?_) (fun h2=>?_)))))))
  ·skip
   have hs:=ansK_2 h0 (of_decide_eq_true h2)
   refine r_seq ?_
   refine r_plan (_) ([keepP kb k]) mo (kp [0,3,4,5,6] rfl) (SelX.ent) ?_
   refine yp 0 [.k 0] rfl rfl (by kernel_rfl) (u_mv rfl rfl rfl) (yp 1 [.o 0] rfl rfl (by kernel_rfl) (u_nil rfl rfl rfl) (yp 2 [.o 1] rfl rfl (by kernel_rfl) (u_fa fa_125_0 rfl rfl rfl) (yr 3 [.o 2] rfl rfl (by kernel_rfl) (fun He=>u_ldc tc_122 rfl rfl rfl (by rfl)) ?_)))
   refine yp 4 [.k 3] rfl rfl (by kernel_rfl) (u_fa fa_139_1 rfl rfl rfl) (yr 5 [.o 4] rfl rfl (by kernel_rfl) (fun He=>u_ldc tc_3 rfl rfl rfl (by rfl)) ?_)
   refine yp 6 [.k 3] rfl rfl (by kernel_rfl) (u_fa fa_139_3 rfl rfl rfl) (yp 7 [.o 6] rfl rfl (by kernel_rfl) (u_fa fa_93_0 rfl rfl rfl) (yr 8 [.o 7] rfl rfl (by kernel_rfl) (fun He=>u_ldc tc_3 rfl rfl rfl (by rfl)) ?_))
   refine yp 9 [.k 3] rfl rfl (by kernel_rfl) (u_fa fa_139_3 rfl rfl rfl) (yp 10 [.o 9] rfl rfl (by kernel_rfl) (u_fa fa_93_1 rfl rfl rfl) (yr 11 [.o 10] rfl rfl (by kernel_rfl) (fun He=>u_ldc tc_3 rfl rfl rfl (by rfl)) ?_))
   refine yp 12 [.o 5,.o 8,.o 11] rfl rfl (by kernel_rfl) (pv_build zr_181 pl_181 (.n rfl) rfl (.c rfl fR rfl rfl rfl (by repeat constructor) (.c rfl fR rfl rfl rfl (by repeat constructor) (.c rfl fR rfl rfl rfl (by repeat constructor) (.c rfl fR rfl rfl rfl (by repeat constructor) .n))))) ?_
   refine qb_callc (i:=13) [.o 3,.o 12] (by kernel_rfl) (by kernel_rfl) rfl rfl rfl rfl (by kernel_rfl) (by kernel_rfl) (by kernel_rfl) ⟨_,.n rfl,rfl⟩ cf_164 rfl (.c rfl (.c rfl .n)) (keep_Do _ kb k hI ⟨1,m.deal,m.ctr,m.dl,false⟩) ?_
   refine yp 14 [.o 13] rfl rfl (by kernel_rfl) (u_as rfl rfl rfl) ?_
   refine qm_n (by kernel_rfl) (by kernel_rfl) (by kernel_rfl) (by kernel_rfl) (kp [4,5,6,7] rfl) ?_
   refine r_sr (p_mv rfl rfl (p_eql rfl rfl rfl (p_fa fa_139_0 rfl rfl ?_)))
   refine p_store (.ofC tc_3) rfl rfl rfl rfl rfl (by repeat constructor) ?_
   refine p_fa fa_139_4 rfl rfl ?_
   refine p_store (.ofC tc_4) rfl rfl rfl rfl rfl (by repeat constructor) ?_
   refine o_keep (kp [4,5,6] rfl) (r_sr ?_)
   refine p_lda ta_139 rfl (Tk.all rfl) rfl ?_
   refine p_store (.ofA ta_139) rfl rfl rfl (by first|rfl|exact rfl) (by first|rfl|exact rfl) (Ins.whole (by simp[*])) ?_
   refine p_as rfl rfl (o_keep (.c 4 rfl (.c 5 rfl .n)) ?_)
   refine r_retv hF rfl (.c (.a rfl ta_139 (.blk (SelB.ent) (Tk.all rfl)) rfl) (.c (.t rfl) .n)) ?_ ?_
   ·refine Ent.catI ?_;rw[hs];refine Ent.c (clerkP_close kb rfl) ?_;apply eI;repeat constructor
   ·rw[hs];rfl
  ·skip
   have h1:=of_decide_eq_false h2
   refine r_sr (p_eql rfl rfl rfl (p_as rfl rfl (o_keep (kp [0,3,4,5,6,40] rfl) (r_cond _ rfl (fun h3=>?_) (fun h3=>?_)))))
   ·skip
    have h3:=of_decide_eq_true h3
    refine r_seq (r_seq ?_)
    refine r_plan (_) ([keepP kb k]) mo (kp [0,3,4,5,6] rfl) (SelX.ent) ?_
    refine yp 0 [.k 0] rfl rfl (by kernel_rfl) (u_mv rfl rfl rfl) (yp 1 [.o 0] rfl rfl (by kernel_rfl) (u_nil rfl rfl rfl) (yp 2 [.o 1] rfl rfl (by kernel_rfl) (u_fa fa_125_0 rfl rfl rfl) (yr 3 [.o 2] rfl rfl (by kernel_rfl) (fun He=>u_ldc tc_122 rfl rfl rfl (by rfl)) ?_)))
    refine yp 4 [.k 3] rfl rfl (by kernel_rfl) (u_fa fa_139_1 rfl rfl rfl) (yr 5 [.o 4] rfl rfl (by kernel_rfl) (fun He=>u_ldc tc_3 rfl rfl rfl (by rfl)) ?_)
    refine yp 6 [.k 3] rfl rfl (by kernel_rfl) (u_fa fa_139_4 rfl rfl rfl) (yr 7 [.o 6] rfl rfl (by kernel_rfl) (fun He=>u_ldc tc_4 rfl rfl rfl (by rfl)) ?_)
    refine yp 8 [.o 5,.o 7] rfl rfl (by kernel_rfl) (pv_build zr_181 pl_181 (.n rfl) rfl (.c rfl fR rfl rfl rfl (by repeat constructor) (.c rfl fR rfl rfl rfl (by repeat constructor) (.c rfl fR rfl rfl rfl (by repeat constructor) .n)))) ?_
    refine qb_callc (i:=9) [.o 3,.o 8] (by kernel_rfl) (by kernel_rfl) rfl rfl rfl rfl (by kernel_rfl) (by kernel_rfl) (by kernel_rfl) ⟨_,.n rfl,rfl⟩ cf_164 rfl (.c rfl (.c rfl .n)) (keep_Do _ kb k hI ⟨2,m.deal,0,0,m.yes⟩) ?_
    refine yp 10 [.o 9] rfl rfl (by kernel_rfl) (pv_neq (.n rfl) rfl rfl rfl fS) ?_
    refine qm_n (by kernel_rfl) (by kernel_rfl) (by kernel_rfl) (by kernel_rfl) (kp [4,5,6,52] rfl) ?_
    refine r_cond _ rfl (fun h4=>?_) (fun h4=>?_)
    ·skip
     have hs:=ansK_3 h0 h1 h3 (by simpa using h4)
     refine r_sr ?_
     refine p_build zr_139 pl_139 (.n) rfl ?_
     refine p_store (.ofA ta_139) rfl rfl rfl rfl rfl (Ins.whole rfl) ?_
     refine p_as rfl rfl (o_keep (kp [4,5,6] rfl) ?_)
     refine r_retv hF rfl (.c (.a rfl ta_139 (.blk (SelB.ent) (Tk.all rfl)) rfl) (.c (.t rfl) .n)) ?_ ?_
     ·refine Ent.catI ?_;rw[hs];refine Ent.c (clerkP_close kb rfl) ?_;apply eI;repeat constructor
     ·rw[hs];rfl
    ·skip
     have hs:=ansK_4 h0 h1 h3 (by simpa using h4)
     refine r_skip (r_sr (p_fa fa_139_0 rfl rfl ?_))
     refine p_store (.ofC tc_3) rfl rfl rfl rfl rfl (by repeat constructor) ?_
     refine o_keep (kp [4,5,6] rfl) (r_sr ?_)
     refine p_lda ta_139 rfl (Tk.all rfl) rfl ?_
     refine p_store (.ofA ta_139) rfl rfl rfl (by first|rfl|exact rfl) (by first|rfl|exact rfl) (Ins.whole (by simp[*])) ?_
     refine p_as rfl rfl (o_keep (.c 4 rfl (.c 5 rfl .n)) ?_)
     refine r_retv hF rfl (.c (.a rfl ta_139 (.blk (SelB.ent) (Tk.all rfl)) rfl) (.c (.t rfl) .n)) ?_ ?_
     ·refine Ent.catI ?_;rw[hs];refine Ent.c (clerkP_close kb rfl) ?_;apply eI;repeat constructor
     ·rw[hs];rfl
   ·skip
    have hs:=ansK_5 h0 h1 (of_decide_eq_false h3)
    refine r_skip (r_end (r_sr ?_))
    refine p_build zr_139 pl_139 (.n) rfl ?_
    refine p_store (.ofA ta_139) rfl rfl rfl rfl rfl (Ins.whole rfl) ?_
    refine p_as rfl rfl (o_keep (kp [4,5] rfl) ?_)
    refine r_retv hF rfl (.c (.a rfl ta_139 (.blk (SelB.ent) (Tk.all rfl)) rfl) (.c (.t rfl) .n)) ?_ ?_
    ·refine Ent.catI ?_;rw[hs];refine Ent.c (clerkP_close kb rfl) ?_;apply eI;repeat constructor
    ·rw[hs];rfl
end Go.Proofs.YtmakdilmibjpbaaGreatDoor
