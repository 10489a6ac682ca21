/- The walks of KeepW: written by a program of ours (gen.py) over the engine. The walks of KeepW2: written by a program of ours (gen.py) over the engine. -/
import Derived.Test.YtmakdilmibjpbaaGreatDoorWants
import Derived.Test.YtmakdilmibjpbaaGreatDoorFacts
import Derived.Test.YtmakdilmibjpbaaGreatDoorDeskP
import Derived.Test.YtmakdilmibjpbaaGreatDoorShopW
import Derived.Test.YtmakdilmibjpbaaGreatDoorShopL
namespace Go.Proofs.YtmakdilmibjpbaaGreatDoor
open Go Go.RowKit
set_option linter.unusedVariables false
set_option linter.unusedSimpArgs false
set_option maxRecDepth 20000
theorem idxI_has{α:Type}[DecidableEq α](l:List α)(a:α):decide ((0:Int)≤idxI l fun x=>decide (x=a))=l.contains a:=by
  rw[Bool.eq_iff_iff,List.contains_iff_mem,decide_eq_true_eq]
  unfold idxI
  cases h:l.findIdx? fun x=>decide (x=a) with
  | none=>
    rw[List.findIdx?_eq_none_iff] at h
    refine⟨fun h'=>absurd (show (0:Int)≤-1 from h') (by omega),fun hm=>?_⟩
    have:=h a hm
    simp at this
  | some i=>
    rw[List.findIdx?_eq_some_iff_getElem] at h
    obtain⟨hi,hp,_⟩:=h
    refine⟨fun _=>?_,fun _=>(show (0:Int)≤(i:Int) by omega)⟩
    have:l[i]=a:=by simpa using hp
    rw[← this];exact List.getElem_mem _
theorem rec_Index (M:Amb)(H:List HP)(v:Value)(l:List (Rec))(a:Rec)(hv:Rd M H v 5 (l.map rR))(hb:l.length≤100000):FnV Tryz.prog M H 189 [v,.agg (rR a).toArray] (.int .i64 (idxI l fun x=>decide (x=a))):=by
 refine fn_intro Tryz.func189 rfl Tryz.ntmps189 rfl fun F hF=>?_
 refine r_sr (p_box rfl rfl rfl fun b3=>?_)
 refine p_as rfl rfl (o_keep (kp [0,3,4] rfl) (r_seq (r_sr (p_mv rfl rfl (l_op (x_p (pv_lens hv.len ⟨_,Tryz.underlying108⟩ (.n rfl) rfl rfl rfl rfl fR) rfl rfl (p_mv rfl rfl (o_keep (kp [0,3,4,7,8] rfl) ?_))))))))
 refine r_block ?_
 refine r_loop_1 (fun (i:Nat)=>[(8,true,.int .i64 (i:Int))]) (kp [0,3,4,7] rfl) (fun (i:Nat)=>blk b3 (rR a) 181::H) (fun (i:Nat)=>i≤l.length∧∀ (j:Nat) x,j<i→l[j]?=some x→decide (x=a)=false) (fun (i:Nat)=>l.length - i) (0) ?_ (kp [8] rfl) ?_ (fun i hI=>?_)
 ·exact⟨Nat.zero_le _,fun j x hj=>by omega⟩
 ·apply eI;repeat constructor
 ·skip
  obtain⟨_,hI⟩:=hI
  refine r_sr (p_lss rfl rfl rfl (o_keep (kp [0,3,4,7,8,9] rfl) (r_seq (r_cond _ rfl (fun h1=>?_) (fun h1=>?_)))))
  ·skip
   obtain⟨x,hx⟩:=getlt (l:=l) (i:=i) (by have:=of_decide_eq_true h1;omega)
   have hil:=(List.getElem?_eq_some_iff.1 hx).1
   refine r_skip (r_seq (r_block (r_sr (p_mv rfl rfl (p_as rfl rfl (o_keep (kp [0,3,4,5,7,8] rfl) (r_seq ?_)))))))
   refine r_plan _ [] mo (kp [0,3,4,5,7,8] rfl) Ent.rfl ?_
   refine yr 0 [.k 3] rfl rfl (by kernel_rfl) (fun He=>q_lda ta_181 (.n rfl) rfl rfl fR (Tk.all rfl)) ?_
   refine yp 1 [.k 0] rfl rfl (by kernel_rfl) (u_mv rfl rfl rfl) (yp 2 [.k 5] rfl rfl (by kernel_rfl) (u_mv rfl rfl rfl) (yp 3 [.o 1,.o 2] rfl rfl (by kernel_rfl) (pv_idx Tryz.underlying108 (.ofA ta_181) hv (fun hg=>⟨rfl,(mapget hx)⟩) (.n rfl) rfl rfl rfl fS) ?_))
   refine yr 4 [.o 3] rfl rfl (by kernel_rfl) (fun He=>rv_ldats (j:=0) ta_181 (Rd.ent hv (eJ (by repeat constructor))) (fun hg=>(mapget hx)) (.n rfl) rfl rfl fR rfl (.s (.s (.s (.s (.s .z)))))) ?_
   refine yp 5 [.o 0,.o 4] rfl rfl (by kernel_rfl) (pv_aeq (eq_Record) (.n rfl) rfl rfl rfl fS) ?_
   refine qm_n (by kernel_rfl) (by kernel_rfl) (by kernel_rfl) (by kernel_rfl) (kp [0,3,4,5,7,8,16] rfl) ?_
   refine r_cond _ rfl (fun h2=>?_) (fun h2=>?_)
   ·skip
    have hpt:a=x:=by simpa using h2
    refine r_sr (p_mv rfl rfl (p_as rfl rfl (o_keep (kp [0,3,4,7,8] rfl) ?_)))
    refine r_retv hF rfl (.c (.t rfl) .n) ?_ ?_
    ·apply eI;repeat constructor
    ·exact int_eq (idxI_hit hx (by simpa using hpt.symm) hI).symm
   ·skip
    have hpf:¬ a=x:=by simpa using h2
    refine r_skip (r_end (r_region (p_add rfl rfl (by omega) rfl (p_mv rfl rfl (o_keep (kp [0,3,4,7,8] rfl) ?_)))))
    refine r_back_1 (i+1) ?_ ?_ (Keep.app (kp [8] rfl) (kp [0,3,4,7] rfl)) ?_
    ·exact⟨by omega,idx_step hI hx (by simpa using fun e=>hpf e.symm)⟩
    ·omega
    ·apply eI;repeat constructor
  ·skip
   have hil:l.length≤i:=by have:=of_decide_eq_false h1;omega
   refine r_exit rfl (r_sr (p_as rfl rfl (o_keep (kp [4] rfl) ?_)))
   refine r_retv hF rfl (.c (.t rfl) .n) ?_ ?_
   ·apply eI;repeat constructor
   ·exact int_eq (idxI_miss fun j x hj=>hI j x (by omega)).symm
theorem rec_Contains (M:Amb)(H:List HP)(v:Value)(l:List Rec)(a:Rec)(hv:Rd M H v 5 (l.map rR))(hb:l.length≤100000):FnV Tryz.prog M H 186 [v,.agg (rR a).toArray] (.bool (l.contains a)):=by
 refine fn_intro Tryz.func186 rfl Tryz.ntmps186 rfl fun F hF=>?_
 refine r_sr (p_box rfl rfl rfl fun b3=>?_)
 refine p_as rfl rfl (o_keep (kp [0,3,4] rfl) (r_sr (p_mv rfl rfl ?_)))
 refine p_lda ta_181 rfl (Tk.all rfl) rfl ?_
 refine p_callv cf_189 (.c rfl (.c rfl .n)) rfl (rec_Index _ _ v l a (Rd.ent hv (eJ (by repeat constructor))) hb) ?_
 refine p_geq rfl rfl rfl (p_as rfl rfl (o_keep (kp [4] rfl) ?_))
 refine r_retv hF rfl (.c (.t rfl) .n) ?_ ?_
 ·apply eI;repeat constructor
 ·exact bool_eq (idxI_has l a)
theorem keep_check (M:Amb)(H:List HP)(r:Rec):FnV Tryz.prog M H 161 [.agg (rR r).toArray] (.int .i64 (recF r)):=by
 refine fn_intro Tryz.func161 rfl Tryz.ntmps161 rfl fun F hF=>?_
 refine r_sr (p_box rfl rfl rfl fun b1=>?_)
 refine p_as rfl rfl (o_keep (kp [1,2] rfl) (r_seq (r_block (r_sr (p_fa fa_181_0 rfl rfl (p_ldc tc_3 rfl (by rfl) rfl ?_))))))
 refine p_eql rfl rfl rfl (p_mv rfl rfl (l_op (x_p (pv_fa fa_181_4 (.s rfl rfl rfl) rfl rfl gA) rfl rfl (l_op (x_r (q_ldc tc_4 (.s rfl rfl rfl) rfl rfl gA (by rfl)) rfl rfl ?_)))))
 refine l_op (x_p (pv_and (.n rfl) rfl rfl rfl (fun _=>⟨rfl,fun hc=>by first|rfl|(rw[hc];rfl)|simp_all⟩)) rfl rfl ?_)
 refine p_mv rfl rfl (l_op (x_p (pv_fa fa_181_0 (.s rfl rfl rfl) rfl rfl gA) rfl rfl (l_op (x_r (q_ldc tc_3 (.s rfl rfl rfl) rfl rfl gA (by rfl)) rfl rfl ?_))))
 refine l_op (x_p (pv_eql (.s rfl rfl rfl) rfl rfl rfl gB) rfl rfl ?_)
 refine l_op (x_p (pv_mv (.s rfl rfl rfl) rfl rfl gA) rfl rfl (l_op (x_p (pv_fa fa_181_2 (.s rfl rfl rfl) rfl rfl gA) rfl rfl ?_)))
 refine l_op (x_r (q_ldc tc_3 (.s rfl rfl rfl) rfl rfl gA (by rfl)) rfl rfl ?_)
 refine l_op (x_p (pv_neq (.s rfl rfl rfl) rfl rfl rfl gB) rfl rfl ?_)
 refine l_op (x_p (pv_mv (.s rfl rfl rfl) rfl rfl gA) rfl rfl (l_op (x_p (pv_fa fa_181_3 (.s rfl rfl rfl) rfl rfl gA) rfl rfl ?_)))
 refine l_op (x_r (q_ldc tc_3 (.s rfl rfl rfl) rfl rfl gA (by rfl)) rfl rfl ?_)
 refine l_op (x_p (pv_neq (.s rfl rfl rfl) rfl rfl rfl gB) rfl rfl ?_)
 refine l_op (x_p (pv_or (.s rfl rfl rfl) rfl rfl rfl (by intro hg;refine⟨?_,fun hc=>?_⟩<;>first|rfl|(rw[hc];rfl)|simp_all)) rfl rfl ?_)
 refine l_op (x_p (pv_and (.s rfl rfl rfl) rfl rfl rfl (by intro hg;refine⟨?_,fun hc=>?_⟩<;>first|rfl|(rw[hc];rfl)|simp_all)) rfl rfl ?_)
 refine l_op (x_p (pv_or (.n rfl) rfl rfl rfl (fun _=>⟨rfl,fun hc=>by first|rfl|(rw[hc];rfl)|simp_all⟩)) rfl rfl ?_)
 refine p_as rfl rfl (o_keep (kp [1,2,3] rfl) (r_cond _ rfl (fun h1=>?_) (fun h1=>?_)))
 ·skip
  have h1:=h1
  refine r_sr (p_as rfl rfl (o_keep (kp [2] rfl) ?_))
  refine r_retv hF rfl (.c (.t rfl) .n) ?_ ?_
  ·apply eI;repeat constructor
  ·exact int_eq (by unfold recF;rw[if_pos (by simpa using h1)])
 ·skip
  have h1:=h1
  refine r_sr (p_fa fa_181_0 rfl rfl (p_ldc tc_3 rfl (by rfl) rfl ?_))
  refine p_neq rfl rfl rfl (p_mv rfl rfl (l_op (x_p (pv_fa fa_181_0 (.s rfl rfl rfl) rfl rfl gA) rfl rfl (l_op (x_r (q_ldc tc_3 (.s rfl rfl rfl) rfl rfl gA (by rfl)) rfl rfl ?_)))))
  refine l_op (x_p (pv_neq (.s rfl rfl rfl) rfl rfl rfl gB) rfl rfl ?_)
  refine l_op (x_p (pv_and (.n rfl) rfl rfl rfl (fun _=>⟨rfl,fun hc=>by first|rfl|(rw[hc];rfl)|simp_all⟩)) rfl rfl ?_)
  refine p_as rfl rfl (o_keep (kp [2,26] rfl) (r_cond _ rfl (fun h2=>?_) (fun h2=>?_)))
  ·skip
   have h2:=h2
   refine r_sr (p_as rfl rfl (o_keep (kp [2] rfl) ?_))
   refine r_retv hF rfl (.c (.t rfl) .n) ?_ ?_
   ·apply eI;repeat constructor
   ·exact int_eq (by unfold recF;rw[if_neg (by simpa using h1)];first|rw[if_pos (by simpa using h2)]|rw[if_neg (by simpa using h2)])
  ·skip
   have h2:=h2
   refine r_skip (r_end (r_sr (p_as rfl rfl (o_keep (kp [2] rfl) ?_))))
   refine r_retv hF rfl (.c (.t rfl) .n) ?_ ?_
   ·apply eI;repeat constructor
   ·exact int_eq (by unfold recF;rw[if_neg (by simpa using h1)];first|rw[if_pos (by simpa using h2)]|rw[if_neg (by simpa using h2)])
theorem keep_do (M:Amb)(b:Nat)(s:ShopS)(hI:ShInv s)(r:Rec):FnC Tryz.prog M 162 [ptr b,.agg (rR r).toArray] (.int .i64 (doR s r).2) [shopP b s] [shopP b (doR s r).1]:=by
 have hh1:=hI.holds_le
 have hh2:=hI.over_le
 have hh3:=hI.no0
 have hcc:∀ h∈s.holds,0≤h.ctr:=fun h hm=>by have:=hI.h h hm;omega
 refine fnc_intro Tryz.func162 rfl Tryz.ntmps162 rfl fun R F hF=>?_
 refine r_cat ?_
 refine r_sr (p_box rfl rfl rfl fun b3=>?_)
 refine p_as rfl rfl (o_keep (kp [0,3,4] rfl) (r_seq (r_sr (p_fa fa_181_0 rfl rfl (p_ldc tc_3 rfl (by rfl) rfl ?_)))))
 refine o_keep (kp [0,3,4,6] rfl) (r_block (r_sr (p_eql rfl rfl rfl (p_as rfl rfl (o_keep (kp [0,3,4,6,7] rfl) (r_cond _ rfl (fun h1=>?_) (fun h1=>?_)))))))
 ·skip
  have hd:doR s r=holdS s r.deal ⟨r.ctr,r.dl⟩:=by unfold doR;rw[if_pos (of_decide_eq_true h1)]
  refine r_sr (p_mv rfl rfl (p_fa fa_181_1 rfl rfl (p_ldc tc_3 rfl (by rfl) rfl ?_)))
  refine p_fa fa_181_2 rfl rfl (p_ldc tc_3 rfl (by rfl) rfl ?_)
  refine p_fa fa_181_3 rfl rfl (p_ldc tc_3 rfl (by rfl) rfl ?_)
  refine p_build zr_93 pl_93 (.c rfl fR rfl rfl rfl (by repeat constructor) (.c rfl fR rfl rfl rfl (by repeat constructor) .n)) rfl ?_
  refine p_callc cf_174 (.c rfl (.c rfl (.c rfl .n))) rfl (shop_Hold _ b s (by omega) (by omega) hh3 r.deal ⟨r.ctr,r.dl⟩) ?_
  refine p_as rfl rfl (o_keep (kp [4] rfl) ?_)
  refine r_retv hF rfl (.c (.t rfl) .n) ?_ ?_
  ·refine Ent.catI ?_;rw[hd];refine Ent.c (SelX.ent) ?_;apply eI;repeat constructor
  ·rw[hd];rfl
 ·skip
  have h1:=of_decide_eq_false h1
  refine r_sr (p_eql rfl rfl rfl (p_as rfl rfl (o_keep (kp [0,3,4,18] rfl) (r_cond _ rfl (fun h2=>?_) (fun h2=>?_)))))
  ·skip
   have hd:doR s r=endS s r.deal r.done:=by unfold doR;rw[if_neg h1,if_pos (of_decide_eq_true h2)]
   refine r_sr (p_mv rfl rfl (p_fa fa_181_1 rfl rfl (p_ldc tc_3 rfl (by rfl) rfl ?_)))
   refine p_fa fa_181_4 rfl rfl (p_ldc tc_4 rfl (by rfl) rfl ?_)
   refine p_callc cf_175 (.c rfl (.c rfl (.c rfl .n))) rfl (shop_End _ b s (by omega) (by omega) hcc r.deal r.done) ?_
   refine p_as rfl rfl (o_keep (kp [4] rfl) ?_)
   refine r_retv hF rfl (.c (.t rfl) .n) ?_ ?_
   ·refine Ent.catI ?_;rw[hd];refine Ent.c (SelX.ent) ?_;apply eI;repeat constructor
   ·rw[hd];rfl
  ·skip
   have hd:doR s r=(s,10):=by unfold doR;rw[if_neg h1,if_neg (of_decide_eq_false h2)]
   refine r_skip (r_end (r_sr (p_as rfl rfl (o_keep (kp [4] rfl) ?_))))
   refine r_retv hF rfl (.c (.t rfl) .n) ?_ ?_
   ·refine Ent.catI ?_;rw[hd];refine Ent.c (SelX.ent) ?_;apply eI;repeat constructor
   ·rw[hd];rfl
def kNewP (o:Option ShopS)(no:Int)(ws:List Int)(x:Nat):List HP:=match o with|none=>[]|some s=>[keepP x ⟨no,ws,s,[]⟩]
theorem keep_New (M:Amb)(no:Int)(ws:List Int)(h6:ws.length=6):FnE (α:=Nat) Tryz.prog M 45 [.int .i64 no,.agg (ws.map vI).toArray] [] (fun x=>newVal (newS no ws) x) (fun x=>kNewP (newS no ws) no ws x):=by
 obtain⟨w0,w1,w2,w3,w4,w5,rfl⟩:=list6E h6
 refine fne_intro Tryz.func45 rfl Tryz.ntmps45 rfl fun R F hF=>?_
 show Run _ _ _ _ _ _ R
 refine r_sr (p_box rfl rfl rfl fun b3=>?_)
 refine p_as rfl rfl (o_keep (kp [0,3,4] rfl) (r_seq ?_))
 rcases hn:newS no [w0,w1,w2,w3,w4,w5] with _|s
 ·skip
  refine r_region (p_mv rfl rfl ?_)
  refine p_lda ta_38 rfl (by exact (.s (.s (.s (.s (.s (.s .z))))))) rfl ?_
  refine p_callc cf_81 (.c rfl (.c rfl .n)) rfl (shop_New_none _ no [w0,w1,w2,w3,w4,w5] rfl hn) ?_
  refine p_as rfl rfl (o_keep (kp [0,3,4,5] rfl) (r_seq (r_sr (p_mv rfl rfl (l_op (x_p (pv_peqn Tryz.underlying152 (.n rfl) rfl rfl rfl fS) rfl rfl (o_keep (kp [0,3,4,5,10] rfl) (r_cond _ rfl (fun h1=>?_) (fun h1=>?_)))))))))
  ·skip
   refine r_sr (p_as rfl rfl (o_keep (kp [0,3,4,5] rfl) ?_))
   refine r_rete (0) hF rfl (.c (.t rfl) .n) ?_ ?_
   ·show Ent _ (kNewP _ _ _ _++R);rw[hn];show Ent _ R;apply eI;repeat constructor
   ·rw[hn];rfl
  ·simp at h1
 ·skip
  refine r_region (p_mv rfl rfl ?_)
  refine p_lda ta_38 rfl (by exact (.s (.s (.s (.s (.s (.s .z))))))) rfl ?_
  refine p_calle cf_81 (.c rfl (.c rfl .n)) rfl (shop_New_some _ no [w0,w1,w2,w3,w4,w5] rfl hn) fun sb=>?_
  refine o_cat ?_
  refine p_as rfl rfl (o_keep (kp [0,3,4,5] rfl) (r_seq (r_sr (p_mv rfl rfl (l_op (x_p (pv_peqn Tryz.underlying152 (.n rfl) rfl rfl rfl fS) rfl rfl (o_keep (kp [0,3,4,5,10] rfl) (r_cond _ rfl (fun h2=>?_) (fun h2=>?_)))))))))
  ·simp at h2
  ·skip
   refine r_skip (r_sr (p_mv rfl rfl (p_mv rfl rfl ?_)))
   refine p_lda ta_38 rfl (by exact (.s (.s (.s (.s (.s (.s .z))))))) rfl ?_
   refine p_build zr_155 pl_155 (.c rfl fR rfl rfl rfl (by repeat constructor) (.c rfl fR rfl rfl rfl (by repeat constructor) (.c rfl fR rfl rfl rfl (by repeat constructor) .n))) rfl ?_
   refine p_box rfl rfl rfl fun b15=>?_
   refine p_as rfl rfl (o_keep (kp [4] rfl) ?_)
   refine r_rete (b15) hF rfl (.c (.t rfl) .n) ?_ ?_
   ·show Ent _ (kNewP _ _ _ _++R);rw[hn];show Ent _ (keepP b15 _::R);refine Ent.tr (Ent.slN (E:=181) (sz:=5)) ?_;refine Ent.c (keepP_close sb (.slice Option.none 0 0) rfl rfl) ?_;apply eI;repeat constructor
   ·rw[hn];rfl
theorem keep_same_o (M:Amb)(b:Nat)(k:KeepS)(sb:Nat)(lv:Value)(r:Rec)(hb:k.l.length≤100000):FnC Tryz.prog M 178 [ptr b,.agg (rR r).toArray] (.bool (k.l.contains r)) [blk b (kpC k sb lv) 155,sl lv 181 5 (k.l.map rR)] [blk b (kpC k sb lv) 155,sl lv 181 5 (k.l.map rR)]:=by
 refine fnc_intro Tryz.func178 rfl Tryz.ntmps178 rfl fun R F hF=>?_
 refine r_cat ?_
 refine r_rd lv fun hrl=>?_
 refine r_sr (p_box rfl rfl rfl fun b3=>?_)
 refine p_as rfl rfl (o_keep (kp [0,3,4] rfl) (r_seq ?_))
 refine r_plan _ [] mo (kp [0,3] rfl) Ent.rfl ?_
 refine yp 0 [.k 0] rfl rfl (by kernel_rfl) (u_mv rfl rfl rfl) (yp 1 [.o 0] rfl rfl (by kernel_rfl) (u_nil rfl rfl rfl) (yp 2 [.o 1] rfl rfl (by kernel_rfl) (u_fa fa_155_3 rfl rfl rfl) (yr 3 [.o 2] rfl rfl (by kernel_rfl) (fun He=>u_ldc tc_108 rfl rfl rfl (by rfl)) ?_)))
 refine yr 4 [.k 3] rfl rfl (by kernel_rfl) (fun He=>q_lda ta_181 (.n rfl) rfl rfl fR (Tk.all rfl)) ?_
 refine yq 5 [.o 3,.o 4] rfl rfl (by kernel_rfl) (fun He=>rq_call cf_186 (.n rfl) rfl (.c rfl fR (.c rfl fR .n)) (fun hg=>rec_Contains _ _ lv k.l r (Rd.ent hrl (eJ (by repeat constructor))) hb)) ?_
 refine yp 6 [.o 5] rfl rfl (by kernel_rfl) (u_as rfl rfl rfl) ?_
 refine qm_n (by kernel_rfl) (by kernel_rfl) (by kernel_rfl) (by kernel_rfl) (kp [4] rfl) ?_
 refine r_retv hF rfl (.c (.t rfl) .n) ?_ ?_
 ·refine Ent.catI ?_;apply eI;repeat constructor
 ·rfl
theorem keep_Do (M:Amb)(b:Nat)(k:KeepS)(hI:KInv k)(r:Rec):FnC Tryz.prog M 164 [ptr b,.agg (rR r).toArray] (.int .i64 (doK k r).2) [keepP b k] [keepP b (doK k r).1]:=by
 have hkl:=hI.l_le
 refine fnc_intro Tryz.func164 rfl Tryz.ntmps164 rfl fun R F hF=>?_
 refine r_cat ?_
 refine r_ex2 fun sb lv=>?_
 refine r_cat ?_
 refine r_rd lv fun hrl=>?_
 refine r_sr (p_box rfl rfl rfl fun b3=>?_)
 refine p_as rfl rfl (o_keep (kp [0,3,4] rfl) (r_seq (r_sr ?_)))
 refine p_lda ta_181 rfl (Tk.all rfl) rfl ?_
 refine p_callv cf_161 (.c rfl .n) rfl (keep_check _ _ r) ?_
 refine p_as rfl rfl (o_keep (kp [0,3,4,5] rfl) (r_sr (p_mv rfl rfl (p_neq rfl rfl rfl (o_keep (kp [0,3,4,5,10] rfl) (r_cond _ rfl (fun h1=>?_) (fun h1=>?_)))))))
 ·skip
  have hne:recF r≠0:=by simpa using h1
  have hd:doK k r=(k,recF r):=doK_1 hne
  refine r_sr (p_mv rfl rfl (p_as rfl rfl (o_keep (kp [0,3,4] rfl) ?_)))
  refine r_retv hF rfl (.c (.t rfl) .n) ?_ ?_
  ·refine Ent.catI ?_;rw[hd];refine Ent.c (keepP_close sb lv rfl rfl) ?_;apply eI;repeat constructor
  ·rw[hd];rfl
 ·skip
  have h0:recF r=0:=by simpa using h1
  refine r_skip (r_seq ?_)
  refine r_plan (_) ([shopP sb k.shop]) mo (kp [0,3,4] rfl) (SelX.ent) ?_
  refine yp 0 [.k 0] rfl rfl (by kernel_rfl) (u_mv rfl rfl rfl) (yp 1 [.o 0] rfl rfl (by kernel_rfl) (u_nil rfl rfl rfl) (yp 2 [.o 1] rfl rfl (by kernel_rfl) (u_fa fa_155_0 rfl rfl rfl) (yr 3 [.o 2] rfl rfl (by kernel_rfl) (fun He=>u_ldc tc_152 rfl rfl rfl (by rfl)) ?_)))
  refine yr 4 [.k 3] rfl rfl (by kernel_rfl) (fun He=>q_lda ta_181 (.n rfl) rfl rfl fR (Tk.all rfl)) ?_
  refine qb_callc (i:=5) [.o 3,.o 4] (by kernel_rfl) (by kernel_rfl) rfl rfl rfl rfl (by kernel_rfl) (by kernel_rfl) (by kernel_rfl) ⟨_,.n rfl,rfl⟩ cf_162 rfl (.c rfl (.c rfl .n)) (keep_do _ sb k.shop hI.sh r) ?_
  refine yp 6 [.o 5] rfl rfl (by kernel_rfl) (u_as rfl rfl rfl) ?_
  refine qm_n (by kernel_rfl) (by kernel_rfl) (by kernel_rfl) (by kernel_rfl) (kp [0,3,4,6] rfl) ?_
  refine r_seq (r_sr (p_mv rfl rfl (p_eql rfl rfl rfl (p_mv rfl rfl (l_op (x_p (pv_mv (.s rfl rfl rfl) rfl rfl gA) rfl rfl ?_))))))
  refine l_op (x_r (q_lda ta_181 (.s rfl rfl rfl) rfl rfl gA (Tk.all rfl)) rfl rfl ?_)
  refine l_op (x_q (rq_call cf_178 (.s rfl rfl rfl) rfl (.c rfl gA (.c rfl gA .n)) (fun hg=>(keep_same_o _ b k sb lv r (by omega)).q)) rfl rfl ?_)
  refine l_op (x_p (pv_not (.s rfl rfl rfl) rfl rfl gA) rfl rfl ?_)
  refine l_op (x_p (pv_and (.n rfl) rfl rfl rfl (fun _=>⟨rfl,fun hc=>by first|rfl|(rw[hc];rfl)|simp_all⟩)) rfl rfl ?_)
  refine o_keep (kp [0,3,4,6,25] rfl) (r_cond _ rfl (fun h2=>?_) (fun h2=>?_))
  ·skip
   have hd:=doK_2 (k:=k) h0 (by simp at h2;exact h2.1) (by simp at h2;simpa using h2.2)
   refine r_plan (_) ([sl lv 181 5 (k.l.map rR)]) mo (kp [0,3,4,6] rfl) (SelS.ent) ?_
   refine yp 0 [.k 0] rfl rfl (by kernel_rfl) (u_mv rfl rfl rfl) (yp 1 [.k 0] rfl rfl (by kernel_rfl) (u_mv rfl rfl rfl) (yp 2 [.o 1] rfl rfl (by kernel_rfl) (u_nil rfl rfl rfl) (yp 3 [.o 2] rfl rfl (by kernel_rfl) (u_fa fa_155_3 rfl rfl rfl) (yr 4 [.o 3] rfl rfl (by kernel_rfl) (fun He=>u_ldc tc_108 rfl rfl rfl (by rfl)) ?_))))
   refine yr 5 [.k 3] rfl rfl (by kernel_rfl) (fun He=>q_lda ta_181 (.n rfl) rfl rfl fR (Tk.all rfl)) ?_
   refine qm_bslice1 Tryz.underlying108 (.ofA ta_181) zr_181 rfl (i:=6) [.o 5] (by kernel_rfl) (by kernel_rfl) rfl rfl rfl rfl (by kernel_rfl) (by kernel_rfl) ⟨_,.n rfl,rfl⟩ rfl rfl rfl rfl rfl rfl fun b32=>?_
   refine qa_append Tryz.underlying108 el_181 rfl rfl (i:=7) [.o 4,.o 6] (by kernel_rfl) (by kernel_rfl) rfl rfl rfl rfl (by kernel_rfl) (by kernel_rfl) ⟨_,.n rfl,rfl⟩ rfl rfl rfl (Rd.blit rfl rfl) (by simp;omega) fun v33=>?_
   refine qm_rd v33 fun hr33=>?_
   refine yp 8 [.o 0] rfl rfl (by kernel_rfl) (u_nil rfl rfl rfl) (yp 9 [.o 8] rfl rfl (by kernel_rfl) (u_fa fa_155_3 rfl rfl rfl) ?_)
   refine qb_store (.ofC tc_108) (i:=10) [.o 9,.o 7] (by kernel_rfl) (by kernel_rfl) rfl rfl rfl (by kernel_rfl) (by kernel_rfl) (by kernel_rfl) ⟨_,.n rfl,rfl⟩ rfl rfl rfl hr33.c1 rfl hr33.o1 (by repeat constructor) ?_
   refine qm_n (by kernel_rfl) (by kernel_rfl) (by kernel_rfl) (by kernel_rfl) (kp [4,6] rfl) ?_
   refine r_sr (p_mv rfl rfl (p_as rfl rfl (o_keep (kp [4] rfl) ?_)))
   refine r_retv hF rfl (.c (.t rfl) .n) ?_ ?_
   ·refine Ent.catI ?_;rw[hd];refine Ent.c (keepP_close sb v33 rfl (by simp)) ?_;apply eI;repeat constructor
   ·rw[hd];rfl
  ·skip
   have hd:=doK_3 (k:=k) h0 (fun q1 q2=>by simp[q1,q2] at h2)
   refine r_skip (r_sr (p_mv rfl rfl (p_as rfl rfl (o_keep (kp [4] rfl) ?_))))
   refine r_retv hF rfl (.c (.t rfl) .n) ?_ ?_
   ·refine Ent.catI ?_;rw[hd];refine Ent.c (keepP_close sb lv rfl rfl) ?_;apply eI;repeat constructor
   ·rw[hd];rfl
theorem keep_Replay (M:Amb)(A:List HP)(no:Int)(ws:List Int)(h6:ws.length=6)(v:Value)(l:List Rec)(hv:Rd M A v 5 (l.map rR))(hb:l.length≤100000):FnE (α:=Nat) Tryz.prog M 139 [.int .i64 no,.agg (ws.map vI).toArray,v] A (fun x=>.tuple #[newVal (replayS no ws l).1 x,.agg (rF (replayS no ws l).2).toArray]) (fun x=>newP (replayS no ws l).1 x++A):=by
 refine fne_intro Tryz.func139 rfl Tryz.ntmps139 rfl fun R F hF=>?_
 refine r_sr (p_box rfl rfl rfl fun b4=>?_)
 refine p_as rfl rfl (p_alloc zr_31 rfl fun b7=>?_)
 refine o_keep (kp [0,2,4,6,7] rfl) (r_seq ?_)
 rcases hn:newS no ws with _|s0
 ·skip
  refine r_region (p_mv rfl rfl ?_)
  refine p_lda ta_38 rfl (by exact (Tk.all (by first|rfl|assumption|(simp only[List.drop_zero,List.length_map];assumption)|(simp[*];done)))) rfl ?_
  refine p_callc cf_81 (.c rfl (.c rfl .n)) rfl (shop_New_none _ no ws h6 hn) ?_
  refine p_as rfl rfl (o_keep (kp [2,6,7,8] rfl) (r_seq (r_sr (p_mv rfl rfl (l_op (x_p (pv_peqn Tryz.underlying152 (.n rfl) rfl rfl rfl fS) rfl rfl (o_keep (kp [2,6,7,8,16] rfl) (r_cond _ rfl (fun h1=>?_) (fun h1=>?_)))))))))
  ·skip
   have hrep:replayS no ws l=(none,⟨1,-1⟩):=by unfold replayS;rw[hn]
   refine r_sr ?_
   refine p_build zr_31 pl_31 (.c rfl fR rfl rfl rfl (by repeat constructor) (.c rfl fR rfl rfl rfl (by repeat constructor) .n)) rfl ?_
   refine p_as rfl rfl ?_
   refine p_store (.ofA ta_31) rfl rfl rfl rfl rfl (by repeat constructor) ?_
   refine o_keep (kp [2,6,7,8] rfl) ?_
   refine r_rete (0) hF rfl (.c (.t rfl) (.c (.a rfl ta_31 (.blk (SelB.ent) (.s (.s .z))) rfl) .n)) ?_ ?_
   ·show Ent _ ((newP _ _++A)++R);rw[hrep];show Ent _ (A++R);apply eI;repeat constructor
   ·rw[hrep];rfl
  ·simp at h1
 ·skip
  refine r_region (p_mv rfl rfl ?_)
  refine p_lda ta_38 rfl (by exact (Tk.all (by first|rfl|assumption|(simp only[List.drop_zero,List.length_map];assumption)|(simp[*];done)))) rfl ?_
  refine p_calle cf_81 (.c rfl (.c rfl .n)) rfl (shop_New_some _ no ws h6 hn) fun b8=>?_
  refine o_cat ?_
  refine p_as rfl rfl (o_keep (kp [2,6,7,8] rfl) (r_seq (r_sr (p_mv rfl rfl (l_op (x_p (pv_peqn Tryz.underlying152 (.n rfl) rfl rfl rfl fS) rfl rfl (o_keep (kp [2,6,7,8,16] rfl) (r_cond _ rfl (fun h2=>?_) (fun h2=>?_)))))))))
  ·simp at h2
  ·skip
   refine r_skip (r_seq (r_sr (p_mv rfl rfl (l_op (x_p (pv_lens hv.len ⟨_,Tryz.underlying108⟩ (.n rfl) rfl rfl rfl rfl fR) rfl rfl (p_mv rfl rfl (o_keep (kp [6,7,8,18,19,20] rfl) (r_block ?_))))))))
   refine r_loop_2 (fun (i:Nat) (s:ShopS)=>[(20,true,.int .i64 (i:Int))]) (kp [6,7,8,18,19] rfl) (fun (i:Nat) (s:ShopS)=>shopP b8 s::blk b7 (rF ⟨0,0⟩) 31::blk b4 (ws.map vI) 38::(A++R)) (fun (i:Nat) (s:ShopS)=>i≤l.length∧ShInv s∧replayS no ws l=replayL s (l.drop i) i) (fun (i:Nat) (s:ShopS)=>l.length - i) (0) (s0) ?_ (kp [20] rfl) ?_ (fun i s hI=>?_)
   ·exact⟨Nat.zero_le _,(newS_ok hn).1,by unfold replayS;rw[hn];rfl⟩
   ·apply eI;repeat constructor
   ·skip
    obtain⟨hil,hS,hR⟩:=hI
    refine r_sr (p_lss rfl rfl rfl (o_keep (kp [6,7,8,18,19,20,21] rfl) (r_seq (r_cond _ rfl (fun h3=>?_) (fun h3=>?_)))))
    ·skip
     obtain⟨r,hr⟩:=getlt (l:=l) (i:=i) (by have:=of_decide_eq_true h3;omega)
     have hil2:=(List.getElem?_eq_some_iff.1 hr).1
     rw[drop_at hr] at hR
     unfold replayL at hR
     refine r_skip (r_seq (r_block (r_sr (p_mv rfl rfl (p_idx Tryz.underlying108 (.ofA ta_181) hv rfl (mapget hr) rfl rfl rfl ?_)))))
     refine p_ldats 0 ta_181 (Rd.ent hv (eJ (by repeat constructor))) (mapget hr) rfl rfl (.s (.s (.s (.s (.s .z))))) rfl ?_
     refine p_alloc zr_181 rfl fun b10=>?_
     refine p_as rfl rfl ?_
     refine p_store (.ofA ta_181) rfl rfl rfl (by first|rfl|exact rfl) (by simp[vI,Value.oneCell']) (Ins.whole (by simp[*])) ?_
     refine o_keep (.c 6 rfl (.c 7 rfl (.c 8 rfl (.c 9 rfl (.c 10 rfl (.c 18 rfl (.c 19 rfl (.c 20 rfl .n)))))))) (r_sr ?_)
     refine p_lda ta_181 rfl (Tk.all rfl) rfl ?_
     refine p_callv cf_161 (.c rfl .n) rfl (keep_check _ _ r) ?_
     refine p_as rfl rfl (o_keep (kp [6,7,8,9,10,11,18,19,20] rfl) (r_seq (r_sr (p_mv rfl rfl (p_eql rfl rfl rfl (o_keep (kp [6,7,8,9,10,11,18,19,20,28] rfl) (r_cond _ rfl (fun h4=>?_) (fun h4=>?_))))))))
     ·skip
      have h0:recF r=0:=of_decide_eq_true h4
      have hdc:doC s r=doR s r:=by unfold doC;rw[if_neg (by omega)]
      rw[hdc] at hR
      refine r_region (p_mv rfl rfl ?_)
      refine p_lda ta_181 rfl (Tk.all rfl) rfl ?_
      refine p_callc cf_162 (.c rfl (.c rfl .n)) rfl (keep_do _ b8 s hS r) ?_
      refine p_as rfl rfl (o_keep (kp [6,7,8,9,11,18,19,20] rfl) (r_sr (p_mv rfl rfl (p_neq rfl rfl rfl (o_keep (kp [6,7,8,9,11,18,19,20,33] rfl) (r_cond _ rfl (fun h5=>?_) (fun h5=>?_)))))))
      ·skip
       have hrep:replayS no ws l=(none,⟨(doR s r).2,i⟩):=by rw[hR,if_pos (by simpa using h5)]
       refine r_sr (p_mv rfl rfl (p_mv rfl rfl ?_))
       refine p_build zr_31 pl_31 (.c rfl fR rfl rfl rfl (by repeat constructor) (.c rfl fR rfl rfl rfl (by repeat constructor) .n)) rfl ?_
       refine p_as rfl rfl ?_
       refine p_store (.ofA ta_31) rfl rfl rfl rfl rfl (by repeat constructor) ?_
       refine o_keep (kp [6,7,8,18,19,20] rfl) ?_
       refine r_rete (0) hF rfl (.c (.t rfl) (.c (.a rfl ta_31 (.blk (SelB.ent) (.s (.s .z))) rfl) .n)) ?_ ?_
       ·show Ent _ ((newP _ _++A)++R);rw[hrep];show Ent _ (A++R);apply eI;repeat constructor
       ·rw[hrep];rfl
      ·skip
       rw[if_neg (by simpa using h5)] at hR
       refine r_skip (r_end (r_region (p_add rfl rfl (by omega) rfl (p_mv rfl rfl (o_keep (kp [6,7,8,18,19,20] rfl) ?_)))))
       refine r_back_2 (i+1) ((doR s r).1) ?_ ?_ (Keep.app (kp [20] rfl) (kp [6,7,8,18,19] rfl)) ?_
       ·exact⟨by omega,by have:=hS.doc r;rw[hdc] at this;exact this,hR⟩
       ·omega
       ·apply eI;repeat constructor
     ·skip
      have hne:¬ recF r=0:=of_decide_eq_false h4
      have hdc:doC s r=(s,recF r):=by unfold doC;rw[if_pos hne]
      rw[hdc] at hR
      refine r_skip (r_sr (p_mv rfl rfl (p_neq rfl rfl rfl (o_keep (kp [6,7,8,9,11,18,19,20,33] rfl) (r_cond _ rfl (fun h6=>?_) (fun h6=>?_))))))
      ·skip
       have hrep:replayS no ws l=(none,⟨recF r,i⟩):=by rw[hR,if_pos hne]
       refine r_sr (p_mv rfl rfl (p_mv rfl rfl ?_))
       refine p_build zr_31 pl_31 (.c rfl fR rfl rfl rfl (by repeat constructor) (.c rfl fR rfl rfl rfl (by repeat constructor) .n)) rfl ?_
       refine p_as rfl rfl ?_
       refine p_store (.ofA ta_31) rfl rfl rfl rfl rfl (by repeat constructor) ?_
       refine o_keep (kp [6,7,8,18,19,20] rfl) ?_
       refine r_rete (0) hF rfl (.c (.t rfl) (.c (.a rfl ta_31 (.blk (SelB.ent) (.s (.s .z))) rfl) .n)) ?_ ?_
       ·show Ent _ ((newP _ _++A)++R);rw[hrep];show Ent _ (A++R);apply eI;repeat constructor
       ·rw[hrep];rfl
      ·exfalso;simp at h6;exact hne h6
    ·skip
     have hrep:replayS no ws l=(some s,⟨0,0⟩):=by rw[hR,List.drop_eq_nil_of_le (by have:=of_decide_eq_false h3;omega)];rfl
     refine r_exit rfl (r_sr (p_mv rfl rfl ?_))
     refine p_build zr_31 pl_31 (.n) rfl ?_
     refine p_as rfl rfl ?_
     refine p_store (.ofA ta_31) rfl rfl rfl rfl rfl (by repeat constructor) ?_
     refine o_keep (kp [6,7] rfl) ?_
     refine r_rete (b8) hF rfl (.c (.t rfl) (.c (.a rfl ta_31 (.blk (SelB.ent) (.s (.s .z))) rfl) .n)) ?_ ?_
     ·show Ent _ ((newP _ _++A)++R);rw[hrep];show Ent _ (shopP b8 s::(A++R));apply eI;repeat constructor
     ·rw[hrep];rfl
end Go.Proofs.YtmakdilmibjpbaaGreatDoor
namespace Go.Proofs.YtmakdilmibjpbaaGreatDoor
open Go Go.RowKit
set_option linter.unusedVariables false
set_option linter.unusedSimpArgs false
set_option maxRecDepth 20000
theorem newS_w6 (no:Int)(ws:List Int):newS no (w6 ws)=newS no ws:=by
  unfold newS
  split
  · rfl
  · rename_i h
    have:no=0∨no=1∨no=2:=by omega
    rcases this with rfl|rfl|rfl<;>rfl
theorem KInv.rep6{k:KeepS}(hI:KInv k):replayS k.no (w6 k.ws) k.l=(some k.shop,⟨0,0⟩):=by
  rw[← hI.crash.2];unfold replayS;rw[newS_w6]
theorem keep_Replay_some (M:Amb)(A:List HP)(no:Int)(ws:List Int)(h6:ws.length=6)(v:Value)(l:List Rec)(hv:Rd M A v 5 (l.map rR))(hb:l.length≤100000){s:ShopS}(h:replayS no ws l=(some s,⟨0,0⟩)):FnN (α:=Nat) Tryz.prog M 139 [.int .i64 no,.agg (ws.map vI).toArray,v] A (fun x=>.tuple #[ptr x,.agg (rF ⟨0,0⟩).toArray]) (fun x=>[shopP x s]):=fun R w ho=>
  (keep_Replay M A no ws h6 v l hv hb R w ho).mono fun _ _ ⟨v,H',e,⟨x,h1,h2⟩,ho'⟩=>⟨v,H',e,⟨x,by rw[h1,h];rfl,by rw[h2,h];rfl⟩,ho'⟩
theorem keep_New_none (M:Amb)(no:Int)(ws:List Int)(h6:ws.length=6)(h:newS no ws=none):FnC Tryz.prog M 45 [.int .i64 no,.agg (ws.map vI).toArray] (.pointer Option.none) [] []:=fun R w ho=>
  (keep_New M no ws h6 R w ho).mono fun _ _ ⟨v,H',e,⟨x,h1,h2⟩,ho'⟩=>⟨v,H',e,⟨by rw[h1,h];rfl,by rw[h2,h];rfl⟩,ho'⟩
theorem keep_New_some (M:Amb)(no:Int)(ws:List Int)(h6:ws.length=6){s:ShopS}(h:newS no ws=some s):FnE (α:=Nat) Tryz.prog M 45 [.int .i64 no,.agg (ws.map vI).toArray] [] (fun x=>ptr x) (fun x=>[keepP x ⟨no,ws,s,[]⟩]):=fun R w ho=>
  (keep_New M no ws h6 R w ho).mono fun _ _ ⟨v,H',e,⟨x,h1,h2⟩,ho'⟩=>⟨v,H',e,⟨x,by rw[h1,h];rfl,by rw[h2,h];rfl⟩,ho'⟩
theorem keep_Crash (M:Amb)(b:Nat)(k:KeepS)(hI:KInv k):FnC Tryz.prog M 101 [ptr b] (resVal []) [keepP b k] [keepP b k]:=by
 have hkl:=hI.l_le
 refine fnc_intro Tryz.func101 rfl Tryz.ntmps101 rfl fun R F hF=>?_
 refine r_cat ?_
 refine r_ex2 fun sb lv=>?_
 refine r_cat ?_
 refine r_rd lv fun hrl=>?_
 refine r_plan _ [] mo (kp [0] rfl) Ent.rfl ?_
 refine yp 0 [.k 0] rfl rfl (by kernel_rfl) (u_mv rfl rfl rfl) (yp 1 [.k 0] rfl rfl (by kernel_rfl) (u_mv rfl rfl rfl) (yp 2 [.o 1] rfl rfl (by kernel_rfl) (u_nil rfl rfl rfl) (yp 3 [.o 2] rfl rfl (by kernel_rfl) (u_fa fa_155_1 rfl rfl rfl) (yr 4 [.o 3] rfl rfl (by kernel_rfl) (fun He=>u_ldc tc_3 rfl rfl rfl (by rfl)) ?_))))
 refine yp 5 [.k 0] rfl rfl (by kernel_rfl) (u_mv rfl rfl rfl) (yp 6 [.o 5] rfl rfl (by kernel_rfl) (u_nil rfl rfl rfl) (yp 7 [.o 6] rfl rfl (by kernel_rfl) (u_fa fa_155_2 rfl rfl rfl) (yr 8 [.o 7] rfl rfl (by kernel_rfl) (fun He=>q_lda ta_38 (.n rfl) rfl rfl fR (by exact (.s (.s (.s (.s (.s (.s .z)))))))) ?_)))
 refine yp 9 [.k 0] rfl rfl (by kernel_rfl) (u_mv rfl rfl rfl) (yp 10 [.o 9] rfl rfl (by kernel_rfl) (u_nil rfl rfl rfl) (yp 11 [.o 10] rfl rfl (by kernel_rfl) (u_fa fa_155_3 rfl rfl rfl) (yr 12 [.o 11] rfl rfl (by kernel_rfl) (fun He=>u_ldc tc_108 rfl rfl rfl (by rfl)) ?_)))
 refine qm_calln (i:=13) [.o 4,.o 8,.o 12] (by kernel_rfl) (by kernel_rfl) rfl rfl rfl rfl (by kernel_rfl) (by kernel_rfl) ⟨_,.n rfl,rfl⟩ cf_139 rfl (.c rfl (.c rfl (.c rfl .n))) (keep_Replay_some _ [sl lv 181 5 (k.l.map rR)] k.no (w6 k.ws) rfl lv k.l (Rd.ent hrl SelS.ent) (by omega) hI.rep6) fun x=>?_
 refine qm_cat ?_
 refine qm_keep ?_
 refine yp 14 [.o 13] rfl rfl (by kernel_rfl) (u_mv rfl rfl rfl) (yp 15 [.o 14] rfl rfl (by kernel_rfl) (u_ext rfl rfl rfl rfl) (yp 16 [.o 14] rfl rfl (by kernel_rfl) (u_ext rfl rfl rfl rfl) (yp 17 [.o 0] rfl rfl (by kernel_rfl) (u_nil rfl rfl rfl) (yp 18 [.o 17] rfl rfl (by kernel_rfl) (u_fa fa_155_0 rfl rfl rfl) ?_))))
 refine qx_store (ex:=[16]) (.ofC tc_152) (i:=19) [.o 18,.o 15] (by kernel_rfl) (by kernel_rfl) rfl rfl rfl (by kernel_rfl) (by kernel_rfl) (by kernel_rfl) ⟨_,.n rfl,rfl⟩ (exOne (l:=[.o 14]) rfl rfl rfl rfl (by kernel_rfl) rfl (fun He=>PV.rq (u_ext rfl rfl rfl rfl))) rfl rfl rfl rfl rfl rfl (by repeat constructor) ?_
 refine qm_n (by kernel_rfl) (by kernel_rfl) (by kernel_rfl) (by kernel_rfl) (.n) ?_
 refine r_fallc hF rfl ?_
 ·refine Ent.catI ?_;refine Ent.c (keepP_close x lv rfl rfl) ?_;apply eI;repeat constructor
end Go.Proofs.YtmakdilmibjpbaaGreatDoor
