/- The walks of PostW: written by a program of ours (gen.py) over the engine. -/
import Derived.Test.YtmakdilmibjpbaaGreatDoorWants
import Derived.Test.YtmakdilmibjpbaaGreatDoorFacts
import Derived.Test.YtmakdilmibjpbaaGreatDoorTinv
namespace Go.Proofs.YtmakdilmibjpbaaGreatDoor
open Go Go.RowKit
set_option linter.unusedVariables false
set_option linter.unusedSimpArgs false
set_option maxRecDepth 20000
theorem post_Len (M:Amb)(b:Nat)(l:List Mail):FnC Tryz.prog M 103 [ptr b] (.int .i64 (l.length:Int)) [postP b l] [postP b l]:=by
 refine fnc_intro Tryz.func103 rfl Tryz.ntmps103 rfl fun R F hF=>?_
 refine r_cat ?_
 refine r_ex fun pv=>?_
 refine r_cat ?_
 refine r_rd pv fun hr=>?_
 refine r_sr (p_as rfl rfl (o_keep (kp [0,2] rfl) (r_sr (p_mv rfl rfl (p_nil rfl rfl (p_fa fa_121_0 rfl rfl (p_ldc tc_70 rfl (by rfl) rfl ?_)))))))
 refine l_op (x_p (pv_lens (Rd.len hr) ⟨_,Tryz.underlying70⟩ (.n rfl) rfl rfl rfl rfl fR) rfl rfl (p_as rfl rfl (o_keep (kp [2] rfl) ?_)))
 refine r_retv hF rfl (.c (.t rfl) .n) ?_ ?_
 ·refine Ent.catI ?_;refine Ent.c (postP_close rfl) ?_;apply eI;repeat constructor
 ·rfl
theorem mail_Delete (M:Amb)(v:Value)(rows:List (List Value))(i:Nat)(hi:i<rows.length)(hb:rows.length≤100000):FnE (α:=Value) Tryz.prog M 160 [v,.int .i64 (i:Int),.int .i64 ((i:Int)+1)] [sl v 139 6 rows] (fun x=>x) (fun x=>[sl x 139 6 (rows.take i++rows.drop (i+1))]):=by
 refine fne_intro Tryz.func160 rfl Tryz.ntmps160 rfl fun R F hF=>?_
 refine r_cat ?_
 refine r_slne v (by omega) ?_
 rintro b cap rfl hcap hr
 refine r_sr (p_as rfl rfl (o_keep (kp [0,1,2,6] rfl) (r_sr (p_mv rfl rfl (p_mv rfl rfl (p_mv rfl rfl (p_mv rfl rfl ?_)))))))
 refine p_len Tryz.underlying70 rfl rfl (l_op (x_p (pv_slcl (l:=i) (h:=i+1) (mx:=rows.length) Tryz.underlying70 (.ofA ta_139) (by omega) (by omega) (by omega) rfl rfl rfl (.inr ⟨_,_,rfl,rfl,rfl⟩) (.inr ⟨_,_,rfl,rfl,rfl⟩) (.inr ⟨_,_,rfl,rfl,rfl⟩) (by simp)) rfl rfl (o_keep (kp [0,1,2,6] rfl) (r_seq (r_sr (p_mv rfl rfl (p_mv rfl rfl (p_eql rfl rfl rfl ?_))))))))
 refine o_keep (kp [0,1,2,6,16] rfl) (r_cond _ rfl (fun h1=>?_) (fun h1=>?_))
 ·exfalso;simp only[decide_eq_true_eq] at h1;omega
 ·try simp only[bq1,bq2,bq3,bq4,bq5,bq6,bq7,bq8] at h1
  refine r_skip (r_sr (p_mv rfl rfl (p_len Tryz.underlying70 rfl rfl (p_as rfl rfl (o_keep (kp [0,1,2,6,7] rfl) (r_seq ?_))))))
  refine r_plan (_) ([arr b 139 6 rows cap]) mo (kp [0,1,2,6,7] rfl) (Ent.h) ?_
  refine yp 0 [.k 0] rfl rfl (by kernel_rfl) (u_mv rfl rfl rfl) (yp 1 [.k 1] rfl rfl (by kernel_rfl) (u_mv rfl rfl rfl) ?_)
  refine yp 2 [.o 0,.o 1] rfl rfl (by kernel_rfl) (pv_to (v':=.slice (some ⟨b,0,Option.none⟩) i cap) (pv_slcl (l:=0) (h:=i) (mx:=cap) Tryz.underlying70 (.ofA ta_139) (by omega) (by omega) (by omega) rfl rfl rfl (.inl ⟨rfl,rfl,rfl⟩) (.inr ⟨_,_,rfl,rfl,rfl⟩) (.inl ⟨rfl,rfl,rfl⟩) (by simp)) (by rw[if_neg (by omega)];simp[addr_add])) ?_
  refine yp 3 [.k 0] rfl rfl (by kernel_rfl) (u_mv rfl rfl rfl) (yp 4 [.k 2] rfl rfl (by kernel_rfl) (u_mv rfl rfl rfl) (yp 5 [.o 3,.o 4] rfl rfl (by kernel_rfl) (pv_slc (l:=i+1) (h:=rows.length) Tryz.underlying70 (.ofA ta_139) hr (by omega) (by omega) rfl rfl rfl (.inr ⟨_,_,rfl,rfl,rfl⟩) (.inl ⟨rfl,rfl,rfl⟩)) ?_))
  refine qm_append_in Tryz.underlying70 el_139 (i:=6) [.o 2,.o 5] (by kernel_rfl) (by kernel_rfl) rfl rfl rfl rfl (by kernel_rfl) (by kernel_rfl) ⟨_,.n rfl,rfl⟩ rfl rfl rfl (Rd.ent (hr.resl (l:=i+1) (h:=rows.length) (by omega) (by omega)) (Ent.one Ent.h)) (by unfold resl;dsimp only;split<;>exact⟨_,_,_,rfl,rfl⟩) (by simp;omega) (by omega) ?_
  refine yp 7 [.o 6] rfl rfl (by kernel_rfl) (u_as rfl rfl rfl) ?_
  refine qm_n (by kernel_rfl) (by kernel_rfl) (by kernel_rfl) (by kernel_rfl) (kp [0,6,7] rfl) ?_
  refine r_sr (p_mv rfl rfl (p_mv rfl rfl (p_len Tryz.underlying70 rfl rfl (p_mv rfl rfl ?_))))
  refine l_op (x_p (pv_slcl (l:=i+((rows.take rows.length).drop (i+1)).length) (h:=rows.length) (mx:=cap) Tryz.underlying70 (.ofA ta_139) (by simp;omega) (by omega) (by omega) rfl rfl rfl (.inr ⟨_,_,rfl,rfl,rfl⟩) (.inr ⟨_,_,rfl,rfl,rfl⟩) (.inl ⟨rfl,rfl,rfl⟩) (by simp)) rfl rfl ?_)
  refine l_op (x_clear (b:=b) (cap:=cap) (rows:=rows.take i++(rows.take rows.length).drop (i+1)) (l:=i+((rows.take rows.length).drop (i+1)).length) Tryz.underlying70 el_139 SelR.ent (by simp;omega) (by simp;omega) (zoB.ok zo_139) rfl rfl rfl rfl (fun hm=>by rw[if_neg (by simp at hm;simp;omega)];simp[addr_add]) ?_)
  refine o_keep (kp [0,6] rfl) (r_sr (p_mv rfl rfl (p_as rfl rfl (o_keep (kp [6] rfl) ?_))))
  refine r_rete (.slice (some ⟨b,0,Option.none⟩) (i+((rows.take rows.length).drop (i+1)).length) cap) hF rfl (.c (.t rfl) .n) ?_ ?_
  ·rw[List.take_length];refine Ent.catI ?_;refine Ent.c (Ent.slOf (by simp;omega)) ?_;exact Ent.rfl
  ·rfl
theorem post_at (M:Amb)(b:Nat)(l:List Mail)(hb:l.length≤100000)(n:Int):FnC Tryz.prog M 159 [ptr b,.int .i64 n] (.int .i64 (if l.length=0 then -1 else (rnd n l.length:Int))) [postP b l] [postP b l]:=by
 refine fnc_intro Tryz.func159 rfl Tryz.ntmps159 rfl fun R F hF=>?_
 refine r_cat ?_
 refine r_ex fun pv=>?_
 refine r_cat ?_
 refine r_rd pv fun hr=>?_
 refine r_sr (p_as rfl rfl (o_keep (kp [0,1,4] rfl) (r_seq (r_sr (p_mv rfl rfl (p_nil rfl rfl (p_fa fa_121_0 rfl rfl ?_)))))))
 refine p_ldc tc_70 rfl (by rfl) rfl ?_
 refine l_op (x_p (pv_lens (Rd.len hr) ⟨_,Tryz.underlying70⟩ (.n rfl) rfl rfl rfl rfl fR) rfl rfl (p_eql rfl rfl rfl (o_keep (kp [0,1,4,10] rfl) (r_cond _ rfl (fun h1=>?_) (fun h1=>?_)))))
 ·try simp only[bq1,bq2,bq3,bq4,bq5,bq6,bq7,bq8] at h1
  refine r_sr (p_as rfl rfl (o_keep (kp [0,1,4] rfl) ?_))
  refine r_retv hF rfl (.c (.t rfl) .n) ?_ ?_
  ·refine Ent.catI ?_;refine Ent.c (postP_close rfl) ?_;apply eI;repeat constructor
  ·exact int_eq (by rw[if_pos (by omega)])
 ·try simp only[bq1,bq2,bq3,bq4,bq5,bq6,bq7,bq8] at h1
  have h0:0<l.length:=by omega
  refine r_skip (r_sr (p_mv rfl rfl (l_op (x_p (pv_conv Tryz.underlying3 Tryz.underlying157 (.n rfl) rfl rfl fR) rfl rfl (p_mv rfl rfl (p_nil rfl rfl (p_fa fa_121_0 rfl rfl (p_ldc tc_70 rfl (by rfl) rfl ?_))))))))
  refine l_op (x_p (pv_lens (Rd.len hr) ⟨_,Tryz.underlying70⟩ (.n rfl) rfl rfl rfl rfl fR) rfl rfl (l_op (x_p (pv_conv Tryz.underlying3 Tryz.underlying157 (.n rfl) rfl rfl fR) rfl rfl (l_op (x_p (pv_rem (fun _=>by first|omega|exact u64_ne (by omega) (by omega)) (.n rfl) rfl rfl rfl fS) rfl rfl ?_)))))
  refine l_op (x_p (pv_conv Tryz.underlying157 Tryz.underlying3 (.n rfl) rfl rfl fR) rfl rfl (p_as rfl rfl (o_keep (kp [4] rfl) ?_)))
  refine r_retv hF rfl (.c (.t rfl) .n) ?_ ?_
  ·refine Ent.catI ?_;refine Ent.c (postP_close rfl) ?_;apply eI;repeat constructor
  ·exact int_eq (by rw[if_neg (by omega),rnd_eq (by omega) (by omega)])
theorem post_Send (M:Amb)(b:Nat)(l:List Mail)(hb:l.length≤100000)(m:Mail):FnC Tryz.prog M 135 [ptr b,vM m] (.bool (decide (l.length<40))) [postP b l] [postP b (sendL l m)]:=by
 refine fnc_intro Tryz.func135 rfl Tryz.ntmps135 rfl fun R F hF=>?_
 refine r_cat ?_
 refine r_ex fun pv=>?_
 refine r_cat ?_
 refine r_rd pv fun hr=>?_
 refine r_sr (p_box rfl rfl rfl fun b3=>?_)
 refine p_as rfl rfl (o_keep (kp [0,3,4] rfl) (r_seq (r_sr (p_mv rfl rfl (p_nil rfl rfl (p_fa fa_121_0 rfl rfl (p_ldc tc_70 rfl (by rfl) rfl ?_)))))))
 refine l_op (x_p (pv_lens (Rd.len hr) ⟨_,Tryz.underlying70⟩ (.n rfl) rfl rfl rfl rfl fR) rfl rfl (p_geq rfl rfl rfl (o_keep (kp [0,3,4,10] rfl) (r_cond _ rfl (fun h1=>?_) (fun h1=>?_)))))
 ·try simp only[bq1,bq2,bq3,bq4,bq5,bq6,bq7,bq8] at h1
  have hs:sendL l m=l:=by unfold sendL;rw[if_neg (by omega)]
  refine r_sr (p_as rfl rfl (o_keep (kp [0,3,4] rfl) ?_))
  refine r_retv hF rfl (.c (.t rfl) .n) ?_ ?_
  ·refine Ent.catI ?_;refine Ent.c (postP_close (by rw[hs])) ?_;apply eI;repeat constructor
  ·exact bool_eq (by simp;omega)
 ·try simp only[bq1,bq2,bq3,bq4,bq5,bq6,bq7,bq8] at h1
  have hs:sendL l m=l++[m]:=by unfold sendL;rw[if_pos (by omega)]
  refine r_skip (r_seq ?_)
  refine r_plan (_) ([sl pv 139 6 (l.map rM)]) mo (kp [0,3,4] rfl) (SelS.ent) ?_
  refine yp 0 [.k 0] rfl rfl (by kernel_rfl) (u_mv rfl rfl rfl) (yp 1 [.k 0] rfl rfl (by kernel_rfl) (u_mv rfl rfl rfl) (yp 2 [.o 1] rfl rfl (by kernel_rfl) (u_nil rfl rfl rfl) (yp 3 [.o 2] rfl rfl (by kernel_rfl) (u_fa fa_121_0 rfl rfl rfl) (yr 4 [.o 3] rfl rfl (by kernel_rfl) (fun He=>u_ldc tc_70 rfl rfl rfl (by rfl)) ?_))))
  refine yr 5 [.k 3] rfl rfl (by kernel_rfl) (fun He=>q_lda ta_139 (.n rfl) rfl rfl fR (by exact (.s (.s (.s (.s (.s (.s .z)))))))) ?_
  refine qm_bslice1 Tryz.underlying70 (.ofA ta_139) zr_139 rfl (i:=6) [.o 5] (by kernel_rfl) (by kernel_rfl) rfl rfl rfl rfl (by kernel_rfl) (by kernel_rfl) ⟨_,.n rfl,rfl⟩ rfl rfl rfl rfl rfl rfl fun b17=>?_
  refine qa_append Tryz.underlying70 el_139 rfl rfl (i:=7) [.o 4,.o 6] (by kernel_rfl) (by kernel_rfl) rfl rfl rfl rfl (by kernel_rfl) (by kernel_rfl) ⟨_,.n rfl,rfl⟩ rfl rfl rfl (Rd.blit rfl rfl) (by simp;omega) fun v18=>?_
  refine qm_rd v18 fun hr18=>?_
  refine yp 8 [.o 0] rfl rfl (by kernel_rfl) (u_nil rfl rfl rfl) (yp 9 [.o 8] rfl rfl (by kernel_rfl) (u_fa fa_121_0 rfl rfl rfl) ?_)
  refine qb_store (.ofC tc_70) (i:=10) [.o 9,.o 7] (by kernel_rfl) (by kernel_rfl) rfl rfl rfl (by kernel_rfl) (by kernel_rfl) (by kernel_rfl) ⟨_,.n rfl,rfl⟩ rfl rfl rfl hr18.c1 rfl hr18.o1 (by repeat constructor) ?_
  refine qm_n (by kernel_rfl) (by kernel_rfl) (by kernel_rfl) (by kernel_rfl) (kp [4] rfl) ?_
  refine r_sr (p_as rfl rfl (o_keep (kp [4] rfl) ?_))
  refine r_retv hF rfl (.c (.t rfl) .n) ?_ ?_
  ·refine Ent.catI ?_;refine Ent.c (postP_close (by rw[hs,List.map_append];rfl)) ?_;apply eI;repeat constructor
  ·exact bool_eq (by simp;omega)
theorem post_New (M:Amb) :FnE (α:=Nat) Tryz.prog M 20 [] [] (fun x=>ptr x) (fun x=>[postP x []]):=by
 refine fne_intro Tryz.func20 rfl Tryz.ntmps20 rfl fun R F hF=>?_
 refine r_cat ?_
 refine r_sr (p_as rfl rfl (o_keep (kp [0] rfl) (r_sr ?_)))
 refine p_build zr_121 pl_121 (.n) rfl ?_
 refine p_box rfl rfl rfl fun b2=>?_
 refine p_as rfl rfl (o_keep (kp [0] rfl) ?_)
 refine r_rete (b2) hF rfl (.c (.t rfl) .n) ?_ ?_
 ·refine Ent.catI ?_;refine Ent.c (postP_nil) ?_;apply eI;repeat constructor
 ·rfl
theorem mail_Clone (M:Amb)(A:List HP)(v:Value)(rows:List (List Value))(hr:Rd M A v 6 rows)(hb:rows.length≤100000):FnE (α:=Value) Tryz.prog M 142 [v] A (fun x=>x) (fun x=>sl x 139 6 rows::A):=by
 refine fne_intro Tryz.func142 rfl Tryz.ntmps142 rfl fun R F hF=>?_
 obtain⟨ao,c,rfl⟩:=hr.shape
 refine r_sr (p_as rfl rfl (o_keep (kp [0,2] rfl) (r_seq (r_sr (p_mv rfl rfl (l_op (x_p (pv_seqn Tryz.underlying70 (.n rfl) rfl rfl rfl fS) rfl rfl (o_keep (kp [0,2,4] rfl) ?_))))))))
 refine r_cond _ rfl (fun h1=>?_) (fun h1=>?_)
 ·skip
  cases ao with
  | some _=>cases h1
  | none=>
  obtain rfl:=hr.nilrows
  refine r_sr (p_as rfl rfl (o_keep (kp [0,2] rfl) ?_))
  refine r_rete (.slice Option.none 0 0) hF rfl (.c (.t rfl) .n) ?_ ?_
  ·exact Ent.slN
  ·rfl
 ·skip
  refine r_skip (r_sr ?_)
  refine p_bslice0 Tryz.underlying70 (.ofA ta_139) zr_139 rfl fun b5=>?_
  refine p_mv rfl rfl ?_
  refine p_append Tryz.underlying70 el_139 rfl rfl rfl rfl rfl (Rd.ent hr (Ent.dropR Ent.left)) (by simp;omega) fun v7=>?_
  refine o_rd v7 fun hr7=>?_
  refine p_as rfl rfl (o_keep (kp [2] rfl) ?_)
  refine r_rete (v7) hF rfl (.c (.t rfl) .n) ?_ ?_
  ·exact Ent.rfl
  ·rfl
theorem post_List (M:Amb)(b:Nat)(l:List Mail)(hb:l.length≤100000):FnE (α:=Value) Tryz.prog M 110 [ptr b] [postP b l] (fun x=>x) (fun x=>[sl x 139 6 (l.map rM),postP b l]):=by
 refine fne_intro Tryz.func110 rfl Tryz.ntmps110 rfl fun R F hF=>?_
 refine r_cat ?_
 refine r_ex fun pv=>?_
 refine r_cat ?_
 refine r_rd pv fun hr=>?_
 refine r_sr (p_as rfl rfl (o_keep (kp [0,2] rfl) (r_sr (p_mv rfl rfl (p_nil rfl rfl (p_fa fa_121_0 rfl rfl (p_ldc tc_70 rfl (by rfl) rfl ?_)))))))
 refine p_calle cf_142 (.c rfl .n) rfl (mail_Clone _ [sl pv 139 6 (l.map rM)] _ _ hr (by simpa using hb)) fun lv=>?_
 refine o_cat ?_
 refine p_as rfl rfl (o_keep (kp [2] rfl) ?_)
 refine r_rete (lv) hF rfl (.c (.t rfl) .n) ?_ ?_
 ·refine Ent.catI ?_;refine Ent.c (SelS.ent) ?_;exact postP_close rfl
 ·rfl
theorem post_Take (M:Amb)(b:Nat)(l:List Mail)(hb:l.length≤100000)(n:Int):FnC Tryz.prog M 136 [ptr b,.int .i64 n] (.tuple #[vM ((takeM l n).getD .z),.bool (takeM l n).isSome]) [postP b l] [postP b (takeL l n)]:=by
 refine fnc_intro Tryz.func136 rfl Tryz.ntmps136 rfl fun R F hF=>?_
 refine r_cat ?_
 refine r_sr (p_alloc zr_139 rfl fun b4=>?_)
 refine p_as rfl rfl (o_keep (kp [0,1,4,5] rfl) (r_sr (p_mv rfl rfl (p_mv rfl rfl ?_))))
 refine p_callv cf_159 (.c rfl (.c rfl .n)) rfl ((post_at _ _ _ hb _).q) ?_
 refine p_as rfl rfl (o_keep (kp [0,4,5,6] rfl) (r_seq (r_sr (p_mv rfl rfl (p_lss rfl rfl rfl (o_keep (kp [0,4,5,6,12] rfl) (r_cond _ rfl (fun h1=>?_) (fun h1=>?_))))))))
 ·skip
  have h0:=at_neg.1 (of_decide_eq_true h1)
  obtain⟨e1,e2⟩:=take_none (n:=n) h0
  refine r_sr ?_
  refine p_build zr_139 pl_139 (.n) rfl ?_
  refine p_store (.ofA ta_139) rfl rfl rfl rfl rfl (by repeat constructor) ?_
  refine p_as rfl rfl (o_keep (kp [0,4,5,6] rfl) ?_)
  refine r_retv hF rfl (.c (.a rfl ta_139 (.blk (SelB.ent) (.s (.s (.s (.s (.s (.s .z))))))) rfl) (.c (.t rfl) .n)) ?_ ?_
  ·refine Ent.catI ?_;rw[e2];refine Ent.c (SelX.ent) ?_;apply eI;repeat constructor
  ·rw[e1];rfl
 ·skip
  have h0:¬ l.length=0:=fun e=>of_decide_eq_false h1 (at_neg.2 e)
  rw[if_neg h0]
  have hi:=rnd_lt (n:=n) (L:=l.length) (by omega)
  obtain⟨m,hm⟩:=takeM_some (l:=l) n (by omega)
  refine r_skip (r_seq ?_)
  refine r_sel (postP b l) ?_
  refine r_ex fun pv=>?_
  refine r_cat ?_
  refine r_rd pv fun hr=>?_
  refine r_region (p_mv rfl rfl (p_nil rfl rfl (p_fa fa_121_0 rfl rfl (p_ldc tc_70 rfl (by rfl) rfl ?_))))
  refine p_mv rfl rfl (p_idx Tryz.underlying70 (.ofA ta_139) hr rfl (mapget hm) rfl rfl rfl ?_)
  refine p_ldats 0 ta_139 (Rd.ent hr (eJ (by repeat constructor))) (mapget hm) rfl rfl (.s (.s (.s (.s (.s (.s .z)))))) rfl ?_
  refine p_alloc zr_139 rfl fun b7=>?_
  refine p_store (.ofA ta_139) rfl rfl rfl rfl rfl (by repeat constructor) ?_
  refine o_keep (kp [0,4,5,6,7] rfl) (r_sr (p_mv rfl rfl (p_mv rfl rfl (p_nil rfl rfl (p_fa fa_121_0 rfl rfl (p_ldc tc_70 rfl (by rfl) rfl ?_))))))
  refine p_mv rfl rfl (p_mv rfl rfl (p_add rfl rfl (by omega) rfl ?_))
  refine p_calle cf_160 (.c rfl (.c rfl (.c rfl .n))) rfl (mail_Delete _ pv (l.map rM) (rnd n l.length) (by simpa using hi) (by simpa using hb)) fun dv=>?_
  refine o_cat ?_
  refine o_rd dv fun hd=>?_
  refine p_nil rfl rfl (p_fa fa_121_0 rfl rfl ?_)
  refine p_store (.ofC tc_70) rfl rfl hd.c1 rfl hd.o1 (by repeat constructor) ?_
  refine o_keep (kp [4,5,7] rfl) (r_sr ?_)
  refine p_lda ta_139 rfl (by exact (.s (.s (.s (.s (.s (.s .z))))))) rfl ?_
  refine p_store (.ofA ta_139) rfl rfl rfl rfl rfl (by repeat constructor) ?_
  refine p_as rfl rfl (o_keep (kp [4,5] rfl) ?_)
  refine r_retv hF rfl (.c (.a rfl ta_139 (.blk (SelB.ent) (.s (.s (.s (.s (.s (.s .z))))))) rfl) (.c (.t rfl) .n)) ?_ ?_
  ·refine Ent.catI ?_;refine Ent.c (postP_close (by simp[takeL])) ?_;apply eI;repeat constructor
  ·rw[hm];rfl
theorem post_Double (M:Amb)(b:Nat)(l:List Mail)(hb:l.length≤100000)(n:Int):FnC Tryz.prog M 137 [ptr b,.int .i64 n] (.bool (dblOk l)) [postP b l] [postP b (dblL l n)]:=by
 refine fnc_intro Tryz.func137 rfl Tryz.ntmps137 rfl fun R F hF=>?_
 refine r_cat ?_
 refine r_sr (p_as rfl rfl (o_keep (kp [0,1,4] rfl) (r_sr (p_mv rfl rfl (p_mv rfl rfl ?_)))))
 refine p_callv cf_159 (.c rfl (.c rfl .n)) rfl ((post_at _ _ _ hb _).q) ?_
 refine p_as rfl rfl (o_keep (kp [0,4,5] rfl) (r_seq ?_))
 refine r_sel (postP b l) ?_
 refine r_ex fun pv=>?_
 refine r_cat ?_
 refine r_rd pv fun hr=>?_
 refine r_region (p_mv rfl rfl (p_geq rfl rfl rfl (p_mv rfl rfl ?_)))
 refine o_split (t:=11) rfl (fun g1=>?_) (fun g1=>?_)
 ·skip
  have h0:=at_nn.1 (of_decide_eq_true g1)
  rw[if_neg (by omega)]
  obtain⟨m,hm⟩:=takeM_some (l:=l) n (by omega)
  obtain⟨e1,e2⟩:=dbl_some hm h0
  refine o_g (.s rfl rfl rfl) rfl (p_mv rfl rfl (o_g (.s rfl rfl rfl) rfl (p_mv rfl rfl (o_g (.s rfl rfl rfl) rfl (p_nil rfl rfl (o_g (.s rfl rfl rfl) rfl (p_fa fa_121_0 rfl rfl ?_)))))))
  refine o_g (.s rfl rfl rfl) rfl (p_ldc tc_70 rfl (by rfl) rfl ?_)
  refine o_g (.s rfl rfl rfl) rfl (p_mv rfl rfl (o_g (.s rfl rfl rfl) rfl (p_idx Tryz.underlying70 (.ofA ta_139) hr rfl (mapget hm) rfl rfl rfl (o_g (.s rfl rfl rfl) rfl ?_))))
  refine p_ldats 0 ta_139 (Rd.ent hr (eJ (by repeat constructor))) (mapget hm) rfl rfl (.s (.s (.s (.s (.s (.s .z)))))) rfl ?_
  refine o_ent (postP_close (b:=b) (pv:=pv) (l:=l) rfl) ?_
  refine o_g (.s rfl rfl rfl) rfl ?_
  refine p_callc cf_135 (.c rfl (.c rfl .n)) rfl (post_Send _ b l hb m) ?_
  refine l_op (x_p (pv_and (.n rfl) rfl rfl rfl (fun _=>⟨rfl,fun hc=>by first|rfl|(rw[hc];rfl)|simp_all⟩)) rfl rfl ?_)
  refine p_as rfl rfl (o_keep (kp [4] rfl) ?_)
  refine r_retv hF rfl (.c (.t rfl) .n) ?_ ?_
  ·refine Ent.catI ?_;rw[e1];refine Ent.c (SelX.ent) ?_;apply eI;repeat constructor
  ·rw[e2];rfl
 ·skip
  have h0:l.length=0:=by have:=mt at_nn.2 (of_decide_eq_false g1);omega
  obtain⟨e1,e2⟩:=dbl_none (n:=n) h0
  refine o_ng (.s rfl rfl rfl) rfl rfl (o_ng (.s rfl rfl rfl) rfl rfl (o_ng (.s rfl rfl rfl) rfl rfl (o_ng (.s rfl rfl rfl) rfl rfl (o_ng (.s rfl rfl rfl) rfl rfl (o_ng (.s rfl rfl rfl) rfl rfl (o_ng (.s rfl rfl rfl) rfl rfl (o_ng (.s rfl rfl rfl) rfl rfl ?_)))))))
  refine o_ent (postP_close (b:=b) (pv:=pv) (l:=l) rfl) ?_
  refine o_ng (.s rfl rfl rfl) rfl rfl (l_op (x_p (pv_andf (.n rfl) rfl rfl fR) rfl rfl (p_as rfl rfl (o_keep (kp [4] rfl) ?_))))
  refine r_retv hF rfl (.c (.t rfl) .n) ?_ ?_
  ·refine Ent.catI ?_;rw[e1];refine Ent.c (SelX.ent) ?_;apply eI;repeat constructor
  ·rw[e2];rfl
end Go.Proofs.YtmakdilmibjpbaaGreatDoor
