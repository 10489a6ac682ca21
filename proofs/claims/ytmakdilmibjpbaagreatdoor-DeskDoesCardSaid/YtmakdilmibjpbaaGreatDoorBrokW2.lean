/- The walks of BrokW: written by a program of ours (gen.py) over the engine. The walks of BrokW2: written by a program of ours (gen.py) over the engine. -/
import Derived.Test.YtmakdilmibjpbaaGreatDoorWants
import Derived.Test.YtmakdilmibjpbaaGreatDoorFacts
import Derived.Test.YtmakdilmibjpbaaGreatDoorDeskP
import Derived.Test.YtmakdilmibjpbaaGreatDoorKeepW2
namespace Go.Proofs.YtmakdilmibjpbaaGreatDoor
open Go Go.RowKit
set_option linter.unusedVariables false
set_option linter.unusedSimpArgs false
set_option maxRecDepth 20000
def brk0:BrokS:=⟨[],[]⟩
theorem broker_New (M:Amb) :FnE (α:=Nat) Tryz.prog M 19 [] [] (fun x=>ptr x) (fun x=>[brokP x brk0]):=by
 refine fne_intro Tryz.func19 rfl Tryz.ntmps19 rfl fun R F hF=>?_
 refine r_cat ?_
 refine r_sr (p_as rfl rfl (o_keep (kp [0] rfl) (r_sr ?_)))
 refine p_build zr_119 pl_119 (.n) rfl ?_
 refine p_box rfl rfl rfl fun b2=>?_
 refine p_as rfl rfl (o_keep (kp [0] rfl) ?_)
 refine r_rete (b2) hF rfl (.c (.t rfl) .n) ?_ ?_
 ·refine Ent.catI ?_;refine Ent.tr (show Ent _ (manyP dealP [] brk0.l::_) from many_nil) (Ent.tr (Ent.slN (E:=3) (sz:=1)) (Ent.tr (Ent.slN (E:=170) (sz:=1)) ?_));refine Ent.c (brokP_close (s:=brk0) (r1:=[]) (r2:=[]) (.slice Option.none 0 0) (.slice Option.none 0 0) [] rfl rfl rfl rfl) ?_;apply eI;repeat constructor
 ·rfl
theorem int_Clone (M:Amb)(A:List HP)(v:Value)(rows:List (List Value))(hr:Rd M A v 1 rows)(hb:rows.length≤100000):FnE (α:=Value) Tryz.prog M 108 [v] A (fun x=>x) (fun x=>sl x 3 1 rows::A):=by
 refine fne_intro Tryz.func108 rfl Tryz.ntmps108 rfl fun R F hF=>?_
 obtain⟨ao,c,rfl⟩:=hr.shape
 refine r_sr (p_as rfl rfl (o_keep (kp [0,2] rfl) (r_seq (r_sr (p_mv rfl rfl (l_op (x_p (pv_seqn Tryz.underlying65 (.n rfl) rfl rfl rfl fS) rfl rfl (o_keep (kp [0,2,4] rfl) ?_))))))))
 refine r_cond _ rfl (fun h1=>?_) (fun h1=>?_)
 ·skip
  cases ao with
  | some _=>cases h1
  | none=>
  obtain rfl:=hr.nilrows
  refine r_sr (p_as rfl rfl (o_keep (kp [0,2] rfl) ?_))
  refine r_rete (.slice Option.none 0 0) hF rfl (.c (.t rfl) .n) ?_ ?_
  ·exact Ent.slN
  ·rfl
 ·skip
  refine r_skip (r_sr ?_)
  refine p_bslice0 Tryz.underlying65 (.ofC tc_3) zr_3 rfl fun b5=>?_
  refine p_mv rfl rfl ?_
  refine p_append Tryz.underlying65 el_3 rfl rfl rfl rfl rfl (Rd.ent hr (Ent.dropR Ent.left)) (by simp;omega) fun v7=>?_
  refine o_rd v7 fun hr7=>?_
  refine p_as rfl rfl (o_keep (kp [2] rfl) ?_)
  refine r_rete (v7) hF rfl (.c (.t rfl) .n) ?_ ?_
  ·exact Ent.rfl
  ·rfl
theorem want_Clone (M:Amb)(A:List HP)(v:Value)(rows:List (List Value))(hr:Rd M A v 2 rows)(hb:rows.length≤100000):FnE (α:=Value) Tryz.prog M 134 [v] A (fun x=>x) (fun x=>sl x 93 2 rows::A):=by
 refine fne_intro Tryz.func134 rfl Tryz.ntmps134 rfl fun R F hF=>?_
 obtain⟨ao,c,rfl⟩:=hr.shape
 refine r_sr (p_as rfl rfl (o_keep (kp [0,2] rfl) (r_seq (r_sr (p_mv rfl rfl (l_op (x_p (pv_seqn Tryz.underlying89 (.n rfl) rfl rfl rfl fS) rfl rfl (o_keep (kp [0,2,4] rfl) ?_))))))))
 refine r_cond _ rfl (fun h1=>?_) (fun h1=>?_)
 ·skip
  cases ao with
  | some _=>cases h1
  | none=>
  obtain rfl:=hr.nilrows
  refine r_sr (p_as rfl rfl (o_keep (kp [0,2] rfl) ?_))
  refine r_rete (.slice Option.none 0 0) hF rfl (.c (.t rfl) .n) ?_ ?_
  ·exact Ent.slN
  ·rfl
 ·skip
  refine r_skip (r_sr ?_)
  refine p_bslice0 Tryz.underlying89 (.ofA ta_93) zr_93 rfl fun b5=>?_
  refine p_mv rfl rfl ?_
  refine p_append Tryz.underlying89 el_93 rfl rfl rfl rfl rfl (Rd.ent hr (Ent.dropR Ent.left)) (by simp;omega) fun v7=>?_
  refine o_rd v7 fun hr7=>?_
  refine p_as rfl rfl (o_keep (kp [2] rfl) ?_)
  refine r_rete (v7) hF rfl (.c (.t rfl) .n) ?_ ?_
  ·exact Ent.rfl
  ·rfl
theorem broker_Done (M:Amb)(b:Nat)(s:BrokS)(hI:BInv s)(hb:s.order.length≤100000):FnE (α:=Value) Tryz.prog M 64 [ptr b] [brokP b s] (fun x=>x) (fun x=>[sl x 3 1 (s.order.map rI),brokP b s]):=by
 refine fne_intro Tryz.func64 rfl Tryz.ntmps64 rfl fun R F hF=>?_
 refine r_cat ?_
 refine r_brok fun dv ov bs hbl=>?_
 refine r_cat ?_
 refine r_rd dv fun hrd=>?_
 refine r_rd ov fun hro=>?_
 refine r_sr (p_as rfl rfl (o_keep (kp [0,2] rfl) (r_sr (p_mv rfl rfl (p_nil rfl rfl (p_fa fa_119_1 rfl rfl (p_ldc tc_65 rfl (by rfl) rfl ?_)))))))
 refine p_calle cf_108 (.c rfl .n) rfl (int_Clone _ [sl ov 3 1 (s.order.map rI)] _ _ hro (by simpa using hb)) fun lv=>?_
 refine o_cat ?_
 refine p_as rfl rfl (o_keep (kp [2] rfl) ?_)
 refine r_rete (lv) hF rfl (.c (.t rfl) .n) ?_ ?_
 ·refine Ent.catI ?_;refine Ent.c (SelS.ent) ?_;exact brokP_close dv ov bs hbl rfl rfl rfl
 ·rfl
theorem bptr{bs:List Nat}{i:Nat}{q:Nat}(h:bs[i]?=some q):(bs.map rPt)[i]?=some (rPt q):=by rw[List.getElem?_map,h];rfl
theorem broker_State (M:Amb)(b:Nat)(s:BrokS)(hI:BInv s)(n:Int):FnC Tryz.prog M 63 [ptr b,.int .i64 n] (.int .i64 (stateB s n)) [brokP b s] [brokP b s]:=by
 refine fnc_intro Tryz.func63 rfl Tryz.ntmps63 rfl fun R F hF=>?_
 refine r_cat ?_
 refine r_brok fun dv ov bs hbl=>?_
 refine r_cat ?_
 refine r_rd dv fun hrd=>?_
 refine r_rd ov fun hro=>?_
 refine r_sr (p_as rfl rfl (o_keep (kp [0,1,4] rfl) (r_seq (r_sr (p_mv rfl rfl (p_lss rfl rfl rfl (p_mv rfl rfl ?_)))))))
 refine l_op (x_p (pv_mv (.s rfl rfl rfl) rfl rfl gA) rfl rfl (l_op (x_p (pv_mv (.s rfl rfl rfl) rfl rfl gA) rfl rfl ?_)))
 refine l_op (x_p (pv_nilp (.s rfl rfl rfl) rfl rfl gA) rfl rfl (l_op (x_p (pv_fa fa_119_0 (.s rfl rfl rfl) rfl rfl gA) rfl rfl ?_)))
 refine l_op (x_r (q_ldc tc_117 (.s rfl rfl rfl) rfl rfl gA (by rfl)) rfl rfl ?_)
 refine l_op (x_p (pv_lens (Rd.len hrd) ⟨_,Tryz.underlying117⟩ (.s rfl rfl rfl) rfl rfl rfl rfl gA) rfl rfl ?_)
 refine l_op (x_p (pv_geq (.s rfl rfl rfl) rfl rfl rfl gB) rfl rfl ?_)
 refine l_op (x_p (pv_or (.n rfl) rfl rfl rfl (fun _=>⟨rfl,fun hc=>by first|rfl|(rw[hc];rfl)|simp_all⟩)) rfl rfl ?_)
 refine o_keep (kp [0,1,4,15] rfl) (r_cond _ rfl (fun h1=>?_) (fun h1=>?_))
 ·skip
  have hst:=stateB_out (b:=s) (n:=n) (by simp at h1;omega)
  refine r_sr (p_as rfl rfl (o_keep (kp [0,1,4] rfl) ?_))
  refine r_retv hF rfl (.c (.t rfl) .n) ?_ ?_
  ·refine Ent.catI ?_;refine Ent.c (brokP_close dv ov bs hbl rfl rfl rfl) ?_;apply eI;repeat constructor
  ·rw[hst];rfl
 ·skip
  have hn0:0≤n∧n<s.l.length:=by simp at h1;omega
  obtain⟨i,hni⟩:∃ i:Nat,n=(i:Int):=⟨n.toNat,by omega⟩
  obtain⟨q,hq⟩:=getlt (l:=bs) (i:=i) (by omega)
  obtain⟨d,hd⟩:=getlt (l:=s.l) (i:=i) (by omega)
  have hst:stateB s n=d.state:=by rw[hni];exact stateB_at hd
  refine r_skip (r_seq ?_)
  refine r_deal i hq hd ?_
  refine r_ex3 fun wv yv tv=>?_
  refine r_cat ?_
  refine r_rd wv fun hrw=>?_
  refine r_rd yv fun hry=>?_
  refine r_rd tv fun hrt=>?_
  refine r_region (p_mv rfl rfl (p_nil rfl rfl (p_fa fa_119_0 rfl rfl (p_ldc tc_117 rfl (by rfl) rfl ?_))))
  refine p_mv rfl rfl (p_idx Tryz.underlying117 (.ofC tc_170) hrd hni (bptr hq) rfl rfl rfl (p_ldat 0 tc_170 (Rd.ent hrd (eJ (by repeat constructor))) (bptr hq) rfl rfl rfl rfl ?_))
  refine p_nil rfl rfl (p_fa fa_169_1 rfl rfl (p_ldc tc_3 rfl (by rfl) rfl ?_))
  refine p_as rfl rfl (o_keep (kp [4] rfl) ?_)
  refine r_retv hF rfl (.c (.t rfl) .n) ?_ ?_
  ·refine Ent.catI ?_;refine Ent.tr (dealP_close (q:=q) (d:=d) wv yv tv rfl rfl rfl rfl) ?_;refine Ent.tr (many_back hq hd) ?_;refine Ent.c (brokP_close dv ov bs hbl rfl rfl rfl) ?_;apply eI;repeat constructor
  ·rw[hst];rfl
theorem wantsB_out{b:BrokS}{n:Int}(h:n<0∨(b.l.length:Int)≤n):wantsB b n=[]:=by
  unfold wantsB
  split
  · rfl
  · rw[List.getElem?_eq_none (by omega)]
theorem broker_Wants (M:Amb)(b:Nat)(s:BrokS)(hI:BInv s)(n:Int)(hw:∀ d∈s.l,d.wants.length≤100000):FnE (α:=Value) Tryz.prog M 107 [ptr b,.int .i64 n] [brokP b s] (fun x=>x) (fun x=>[sl x 93 2 ((wantsB s n).map rW),brokP b s]):=by
 refine fne_intro Tryz.func107 rfl Tryz.ntmps107 rfl fun R F hF=>?_
 refine r_cat ?_
 refine r_brok fun dv ov bs hbl=>?_
 refine r_cat ?_
 refine r_rd dv fun hrd=>?_
 refine r_rd ov fun hro=>?_
 refine r_sr (p_as rfl rfl (o_keep (kp [0,1,4] rfl) (r_seq (r_sr (p_mv rfl rfl (p_lss rfl rfl rfl (p_mv rfl rfl ?_)))))))
 refine l_op (x_p (pv_mv (.s rfl rfl rfl) rfl rfl gA) rfl rfl (l_op (x_p (pv_mv (.s rfl rfl rfl) rfl rfl gA) rfl rfl ?_)))
 refine l_op (x_p (pv_nilp (.s rfl rfl rfl) rfl rfl gA) rfl rfl (l_op (x_p (pv_fa fa_119_0 (.s rfl rfl rfl) rfl rfl gA) rfl rfl ?_)))
 refine l_op (x_r (q_ldc tc_117 (.s rfl rfl rfl) rfl rfl gA (by rfl)) rfl rfl ?_)
 refine l_op (x_p (pv_lens (Rd.len hrd) ⟨_,Tryz.underlying117⟩ (.s rfl rfl rfl) rfl rfl rfl rfl gA) rfl rfl ?_)
 refine l_op (x_p (pv_geq (.s rfl rfl rfl) rfl rfl rfl gB) rfl rfl ?_)
 refine l_op (x_p (pv_or (.n rfl) rfl rfl rfl (fun _=>⟨rfl,fun hc=>by first|rfl|(rw[hc];rfl)|simp_all⟩)) rfl rfl ?_)
 refine o_keep (kp [0,1,4,15] rfl) (r_cond _ rfl (fun h1=>?_) (fun h1=>?_))
 ·skip
  have hst:=stateB_out (b:=s) (n:=n) (by simp at h1;omega)
  have hwb:=wantsB_out (b:=s) (n:=n) (by simp at h1;omega)
  refine r_sr (p_as rfl rfl (o_keep (kp [0,1,4] rfl) ?_))
  refine r_rete (.slice Option.none 0 0) hF rfl (.c (.t rfl) .n) ?_ ?_
  ·refine Ent.catI ?_;rw[hwb];refine Ent.tr (Ent.slN (E:=93) (sz:=2)) ?_;refine Ent.c (SelS.ent) ?_;refine Ent.c (brokP_close dv ov bs hbl rfl rfl rfl) ?_;apply eI;repeat constructor
  ·rfl
 ·skip
  have hn0:0≤n∧n<s.l.length:=by simp at h1;omega
  obtain⟨i,hni⟩:∃ i:Nat,n=(i:Int):=⟨n.toNat,by omega⟩
  obtain⟨q,hq⟩:=getlt (l:=bs) (i:=i) (by omega)
  obtain⟨d,hd⟩:=getlt (l:=s.l) (i:=i) (by omega)
  have hwb:wantsB s n=d.wants:=by rw[hni];exact wantsB_at hd
  refine r_skip (r_seq ?_)
  have hdw:=hw d (List.mem_of_getElem? hd)
  refine r_deal i hq hd ?_
  refine r_ex3 fun wv yv tv=>?_
  refine r_cat ?_
  refine r_rd wv fun hrw=>?_
  refine r_rd yv fun hry=>?_
  refine r_rd tv fun hrt=>?_
  refine r_region (p_mv rfl rfl (p_nil rfl rfl (p_fa fa_119_0 rfl rfl (p_ldc tc_117 rfl (by rfl) rfl ?_))))
  refine p_mv rfl rfl (p_idx Tryz.underlying117 (.ofC tc_170) hrd hni (bptr hq) rfl rfl rfl (p_ldat 0 tc_170 (Rd.ent hrd (eJ (by repeat constructor))) (bptr hq) rfl rfl rfl rfl ?_))
  refine p_nil rfl rfl (p_fa fa_169_0 rfl rfl (p_ldc tc_89 rfl (by rfl) rfl ?_))
  refine p_calle cf_134 (.c rfl .n) rfl (want_Clone _ [sl wv 93 2 (d.wants.map rW)] _ _ hrw (by simpa using hdw)) fun lv=>?_
  refine o_cat ?_
  refine p_as rfl rfl (o_keep (kp [4] rfl) ?_)
  refine r_rete (lv) hF rfl (.c (.t rfl) .n) ?_ ?_
  ·refine Ent.catI ?_;rw[hwb];refine Ent.c (SelS.ent) ?_;refine Ent.tr (dealP_close (q:=q) (d:=d) wv yv tv rfl rfl rfl rfl) ?_;refine Ent.tr (many_back hq hd) ?_;refine Ent.c (brokP_close dv ov bs hbl rfl rfl rfl) ?_;apply eI;repeat constructor
  ·rfl
theorem decideB_1{s:BrokS}{i:Nat}{d:Deal}{st:Int}(h:s.l[i]?=some d)(h0:d.state≠0):decideB s i st=s:=by unfold decideB;rw[h];dsimp only;rw[if_pos h0]
theorem decideB_2{s:BrokS}{i:Nat}{d:Deal}{st:Int}(h:s.l[i]?=some d)(h0:d.state=0):decideB s i st=⟨s.l.set i {d with state:=st},if st=1 then s.order++[(i:Int)] else s.order⟩:=by unfold decideB;rw[h];dsimp only;rw[if_neg (by omega)]
theorem broker_decide_o (M:Amb)(b:Nat)(s:BrokS)(dv ov:Value)(bs:List Nat)(hbl:bs.length=s.l.length)(i:Nat)(d:Deal)(hd:s.l[i]?=some d)(st:Int)(hb:s.order.length≤100000):FnE (α:=Value) Tryz.prog M 138 [ptr b,.int .i64 (i:Int),.int .i64 st] [blk b [dv,ov] 119,sl dv 170 1 (bs.map rPt),sl ov 3 1 (s.order.map rI),manyP dealP bs s.l] (fun _=>resVal []) (fun x=>[blk b [dv,x] 119,sl dv 170 1 (bs.map rPt),sl x 3 1 ((decideB s i st).order.map rI),manyP dealP bs (decideB s i st).l]):=by
 refine fne_intro Tryz.func138 rfl Tryz.ntmps138 rfl fun R F hF=>?_
 refine r_cat ?_
 refine r_rd dv fun hrd=>?_
 refine r_rd ov fun hro=>?_
 have hil:=(List.getElem?_eq_some_iff.1 hd).1
 obtain⟨q,hq⟩:=getlt (l:=bs) (i:=i) (by omega)
 refine r_deal i hq hd ?_
 refine r_ex3 fun wv yv tv=>?_
 refine r_cat ?_
 refine r_rd wv fun hrw=>?_
 refine r_rd yv fun hry=>?_
 refine r_rd tv fun hrt=>?_
 refine r_seq (r_sr (p_mv rfl rfl (p_nil rfl rfl (p_fa fa_119_0 rfl rfl (p_ldc tc_117 rfl (by rfl) rfl ?_)))))
 refine p_mv rfl rfl (p_idx Tryz.underlying117 (.ofC tc_170) hrd rfl (bptr hq) rfl rfl rfl (p_ldat 0 tc_170 (Rd.ent hrd (eJ (by repeat constructor))) (bptr hq) rfl rfl rfl rfl ?_))
 refine p_nil rfl rfl (p_fa fa_169_1 rfl rfl (p_ldc tc_3 rfl (by rfl) rfl ?_))
 refine p_neq rfl rfl rfl (o_keep (kp [0,1,2,16] rfl) (r_cond _ rfl (fun h1=>?_) (fun h1=>?_)))
 ·skip
  have hde:=decideB_1 (st:=st) hd (by simpa using h1)
  refine r_rete (ov) hF rfl .n ?_ ?_
  ·refine Ent.catI ?_;rw[hde];refine Ent.tr (dealP_close (q:=q) (d:=d) wv yv tv rfl rfl rfl rfl) ?_;refine Ent.tr (many_back hq hd) ?_;apply eI;repeat constructor
  ·rfl
 ·skip
  have hde:=decideB_2 (st:=st) hd (by simpa using h1)
  refine r_skip (r_sr (p_mv rfl rfl (p_nil rfl rfl (p_fa fa_119_0 rfl rfl (p_ldc tc_117 rfl (by rfl) rfl ?_)))))
  refine p_mv rfl rfl (p_idx Tryz.underlying117 (.ofC tc_170) hrd rfl (bptr hq) rfl rfl rfl (p_ldat 0 tc_170 (Rd.ent hrd (eJ (by repeat constructor))) (bptr hq) rfl rfl rfl rfl ?_))
  refine p_mv rfl rfl (p_nil rfl rfl (p_fa fa_169_1 rfl rfl ?_))
  refine p_store (.ofC tc_3) rfl rfl rfl rfl rfl (by repeat constructor) ?_
  refine o_keep (kp [0,1,2] rfl) (r_sr (p_mv rfl rfl (p_eql rfl rfl rfl (o_keep (kp [0,1,28] rfl) (r_cond _ rfl (fun h2=>?_) (fun h2=>?_))))))
  ·skip
   have h1:st=1:=of_decide_eq_true h2
   rw[if_pos h1] at hde
   refine r_region (p_mv rfl rfl (p_mv rfl rfl (p_nil rfl rfl (p_fa fa_119_1 rfl rfl (p_ldc tc_65 rfl (by rfl) rfl ?_)))))
   refine p_mv rfl rfl ?_
   refine p_bslice1 Tryz.underlying65 (.ofC tc_3) zr_3 rfl rfl rfl rfl rfl rfl rfl fun b35=>?_
   refine p_append Tryz.underlying65 el_3 rfl rfl rfl rfl rfl (Rd.blit rfl rfl) (by simp;omega) fun v36=>?_
   refine o_rd v36 fun hr36=>?_
   refine p_nil rfl rfl (p_fa fa_119_1 rfl rfl ?_)
   refine p_store (.ofC tc_65) rfl rfl hr36.c1 rfl hr36.o1 (by repeat constructor) ?_
   refine o_keep (.n) ?_
   refine r_falle (v36) hF rfl ?_
   ·refine Ent.catI ?_;rw[hde];dsimp only;rw[List.map_append];refine Ent.tr (dealP_close (q:=q) (d:={d with state:=st}) wv yv tv rfl rfl rfl rfl) ?_;refine Ent.tr (Ent.mono (SelX.ent (X:=restP dealP bs s.l i))) ?_;refine Ent.tr (many_in hq hd) ?_;apply eI;repeat constructor
  ·skip
   have h1:¬ st=1:=of_decide_eq_false h2
   rw[if_neg h1] at hde
   refine r_skip ?_
   refine r_falle (ov) hF rfl ?_
   ·refine Ent.catI ?_;rw[hde];refine Ent.tr (dealP_close (q:=q) (d:={d with state:=st}) wv yv tv rfl rfl rfl rfl) ?_;refine Ent.tr (Ent.mono (SelX.ent (X:=restP dealP bs s.l i))) ?_;refine Ent.tr (many_in hq hd) ?_;apply eI;repeat constructor
theorem decideB_len (s:BrokS)(i:Nat)(st:Int):(decideB s i st).l.length=s.l.length:=by
  unfold decideB;split
  · rfl
  · split
    · rfl
    · simp
theorem brokP_open{M:Amb}{R:List HP}{b:Nat}{s:BrokS}{w:World}(ho:Own M (brokP b s::R) w):∃ dv ov bs,bs.length=s.l.length∧Own M (bkL b s dv ov bs++R) w:=by
  obtain⟨hb,hs,g,⟨x,y,⟨dv,ov,bs,hl,hx⟩,hr,hd,e⟩,hh⟩:=ho
  subst e
  exact⟨dv,ov,bs,hl,hb,hs,_,sep_app' hx hr hd,hh⟩
theorem broker_decide (M:Amb)(b:Nat)(s:BrokS)(i:Nat)(d:Deal)(hd:s.l[i]?=some d)(st:Int)(hb:s.order.length≤100000):FnC Tryz.prog M 138 [ptr b,.int .i64 (i:Int),.int .i64 st] (resVal []) [brokP b s] [brokP b (decideB s i st)]:=fun R w ho=>by
  obtain⟨dv,ov,bs,hl,ho'⟩:=brokP_open ho
  refine (broker_decide_o M b s dv ov bs hl i d hd st hb R w ho').mono ?_
  rintro _ _ ⟨v,H',e,⟨x,h1,h2⟩,h3⟩
  refine⟨v,_,e,⟨h1,rfl⟩,(h2▸h3).ent (brokP_close dv x bs (by rw[decideB_len];exact hl) rfl rfl rfl)⟩
theorem broker_Quit (M:Amb)(b:Nat)(s:BrokS)(hI:BInv s)(n:Int)(hb:s.order.length≤100000):FnC Tryz.prog M 99 [ptr b,.int .i64 n] (.int .i64 (quitB s n).2) [brokP b s] [brokP b (quitB s n).1]:=by
 refine fnc_intro Tryz.func99 rfl Tryz.ntmps99 rfl fun R F hF=>?_
 refine r_cat ?_
 refine r_sr (p_as rfl rfl (o_keep (kp [0,1,4] rfl) (r_seq (r_sr (p_mv rfl rfl (p_mv rfl rfl ?_))))))
 refine p_callv cf_63 (.c rfl (.c rfl .n)) rfl ((broker_State _ b s hI n).q) ?_
 refine o_keep (kp [0,1,4,7] rfl) (r_block (r_sr (p_eql rfl rfl rfl (p_as rfl rfl (o_keep (kp [0,1,4,7,8] rfl) (r_cond _ rfl (fun h1=>?_) (fun h1=>?_)))))))
 ·skip
  have hs:quitB s n=(s,7):=by unfold quitB;rw[if_pos (of_decide_eq_true h1)]
  refine r_sr (p_as rfl rfl (o_keep (kp [4] rfl) ?_))
  refine r_retv hF rfl (.c (.t rfl) .n) ?_ ?_
  ·refine Ent.catI ?_;rw[hs];refine Ent.c (SelX.ent) ?_;apply eI;repeat constructor
  ·rw[hs];rfl
 ·skip
  have h1:¬ stateB s n=-1:=of_decide_eq_false h1
  refine r_sr (p_eql rfl rfl rfl (p_as rfl rfl (o_keep (kp [0,1,4,10] rfl) (r_cond _ rfl (fun h2=>?_) (fun h2=>?_)))))
  ·skip
   have h2:stateB s n=0:=of_decide_eq_true h2
   obtain⟨i,d,rfl,hdd⟩:∃ (i:Nat) (d:Deal),n=(i:Int)∧s.l[i]?=some d:=by rcases hI.st n with h|h;omega;exact⟨n.toNat,s.l[n.toNat]'(by omega),by omega,List.getElem?_eq_getElem (by omega)⟩
   have hs:quitB s (i:Int)=(decideB s i 2,0):=by unfold quitB;rw[if_neg h1,if_pos h2,Int.toNat_natCast]
   refine r_sr (p_mv rfl rfl (p_mv rfl rfl ?_))
   refine p_callc cf_138 (.c rfl (.c rfl (.c rfl .n))) rfl (broker_decide _ b s i d hdd 2 hb) ?_
   refine o_keep (kp [4] rfl) (r_sr (p_as rfl rfl (o_keep (kp [4] rfl) ?_)))
   refine r_retv hF rfl (.c (.t rfl) .n) ?_ ?_
   ·refine Ent.catI ?_;rw[hs];refine Ent.c (SelX.ent) ?_;apply eI;repeat constructor
   ·rw[hs];rfl
  ·skip
   have hs:quitB s n=(s,8):=by unfold quitB;rw[if_neg h1,if_neg (of_decide_eq_false h2)]
   refine r_skip (r_end (r_sr (p_as rfl rfl (o_keep (kp [4] rfl) ?_))))
   refine r_retv hF rfl (.c (.t rfl) .n) ?_ ?_
   ·refine Ent.catI ?_;rw[hs];refine Ent.c (SelX.ent) ?_;apply eI;repeat constructor
   ·rw[hs];rfl
end Go.Proofs.YtmakdilmibjpbaaGreatDoor
namespace Go.Proofs.YtmakdilmibjpbaaGreatDoor
open Go Go.RowKit
set_option linter.unusedVariables false
set_option linter.unusedSimpArgs false
set_option maxRecDepth 20000
theorem int_Index (M:Amb)(H:List HP)(v:Value)(l:List (Int))(a:Int)(hv:Rd M H v 1 (l.map rI))(hb:l.length≤100000):FnV Tryz.prog M H 143 [v,.int .i64 a] (.int .i64 (idxI l fun x=>decide (x=a))):=by
 refine fn_intro Tryz.func143 rfl Tryz.ntmps143 rfl fun F hF=>?_
 refine r_sr (p_as rfl rfl (o_keep (kp [0,1,4] rfl) (r_seq (r_sr (p_mv rfl rfl (l_op (x_p (pv_lens hv.len ⟨_,Tryz.underlying65⟩ (.n rfl) rfl rfl rfl rfl fR) rfl rfl (p_mv rfl rfl ?_))))))))
 refine o_keep (kp [0,1,4,7,8] rfl) (r_block ?_)
 refine r_loop_1 (fun (i:Nat)=>[(8,true,.int .i64 (i:Int))]) (kp [0,1,4,7] rfl) (fun (i:Nat)=>H) (fun (i:Nat)=>i≤l.length∧∀ (j:Nat) x,j<i→l[j]?=some x→decide (x=a)=false) (fun (i:Nat)=>l.length - i) (0) ?_ (kp [8] rfl) ?_ (fun i hI=>?_)
 ·exact⟨Nat.zero_le _,fun j x hj=>by omega⟩
 ·apply eI;repeat constructor
 ·skip
  obtain⟨_,hI⟩:=hI
  refine r_sr (p_lss rfl rfl rfl (o_keep (kp [0,1,4,7,8,9] rfl) (r_seq (r_cond _ rfl (fun h1=>?_) (fun h1=>?_)))))
  ·skip
   obtain⟨x,hx⟩:=getlt (l:=l) (i:=i) (by have:=of_decide_eq_true h1;omega)
   have hil:=(List.getElem?_eq_some_iff.1 hx).1
   refine r_skip (r_seq (r_block (r_sr (p_mv rfl rfl (p_as rfl rfl (o_keep (kp [0,1,4,5,7,8] rfl) (r_sr ?_)))))))
   refine p_mv rfl rfl (p_mv rfl rfl (p_mv rfl rfl (p_idx Tryz.underlying65 (.ofC tc_3) hv rfl (mapget hx) rfl rfl rfl (p_ldat 0 tc_3 (Rd.ent hv (eJ (by repeat constructor))) (mapget hx) rfl rfl rfl rfl ?_))))
   refine p_eql rfl rfl rfl (o_keep (kp [0,1,4,5,7,8,16] rfl) (r_cond _ rfl (fun h2=>?_) (fun h2=>?_)))
   ·skip
    have hpt:a=x:=by simpa using h2
    refine r_sr (p_mv rfl rfl (p_as rfl rfl (o_keep (kp [0,1,4,7,8] rfl) ?_)))
    refine r_retv hF rfl (.c (.t rfl) .n) ?_ ?_
    ·apply eI;repeat constructor
    ·exact int_eq (idxI_hit hx (by simpa using hpt.symm) hI).symm
   ·skip
    have hpf:¬ a=x:=by simpa using h2
    refine r_skip (r_end (r_region (p_add rfl rfl (by omega) rfl (p_mv rfl rfl (o_keep (kp [0,1,4,7,8] rfl) ?_)))))
    refine r_back_1 (i+1) ?_ ?_ (Keep.app (kp [8] rfl) (kp [0,1,4,7] rfl)) ?_
    ·exact⟨by omega,idx_step hI hx (by simpa using fun e=>hpf e.symm)⟩
    ·omega
    ·apply eI;repeat constructor
  ·skip
   have hil:l.length≤i:=by have:=of_decide_eq_false h1;omega
   refine r_exit rfl (r_sr (p_as rfl rfl (o_keep (kp [4] rfl) ?_)))
   refine r_retv hF rfl (.c (.t rfl) .n) ?_ ?_
   ·apply eI;repeat constructor
   ·exact int_eq (idxI_miss fun j x hj=>hI j x (by omega)).symm
theorem int_Contains (M:Amb)(H:List HP)(v:Value)(l:List Int)(a:Int)(hv:Rd M H v 1 (l.map rI))(hb:l.length≤100000):FnV Tryz.prog M H 112 [v,.int .i64 a] (.bool (l.contains a)):=by
 refine fn_intro Tryz.func112 rfl Tryz.ntmps112 rfl fun F hF=>?_
 refine r_sr (p_as rfl rfl (o_keep (kp [0,1,4] rfl) (r_sr (p_mv rfl rfl (p_mv rfl rfl ?_)))))
 refine p_callv cf_143 (.c rfl (.c rfl .n)) rfl (int_Index _ _ v l a (Rd.ent hv (eJ (by repeat constructor))) hb) ?_
 refine p_geq rfl rfl rfl (p_as rfl rfl (o_keep (kp [4] rfl) ?_))
 refine r_retv hF rfl (.c (.t rfl) .n) ?_ ?_
 ·apply eI;repeat constructor
 ·exact bool_eq (idxI_has l a)
theorem bool_Index (M:Amb)(H:List HP)(v:Value)(l:List (Bool))(a:Bool)(hv:Rd M H v 1 (l.map rBo))(hb:l.length≤100000):FnV Tryz.prog M H 185 [v,.bool a] (.int .i64 (idxI l fun x=>decide (x=a))):=by
 refine fn_intro Tryz.func185 rfl Tryz.ntmps185 rfl fun F hF=>?_
 refine r_sr (p_as rfl rfl (o_keep (kp [0,1,4] rfl) (r_seq (r_sr (p_mv rfl rfl (l_op (x_p (pv_lens hv.len ⟨_,Tryz.underlying167⟩ (.n rfl) rfl rfl rfl rfl fR) rfl rfl (p_mv rfl rfl ?_))))))))
 refine o_keep (kp [0,1,4,7,8] rfl) (r_block ?_)
 refine r_loop_1 (fun (i:Nat)=>[(8,true,.int .i64 (i:Int))]) (kp [0,1,4,7] rfl) (fun (i:Nat)=>H) (fun (i:Nat)=>i≤l.length∧∀ (j:Nat) x,j<i→l[j]?=some x→decide (x=a)=false) (fun (i:Nat)=>l.length - i) (0) ?_ (kp [8] rfl) ?_ (fun i hI=>?_)
 ·exact⟨Nat.zero_le _,fun j x hj=>by omega⟩
 ·apply eI;repeat constructor
 ·skip
  obtain⟨_,hI⟩:=hI
  refine r_sr (p_lss rfl rfl rfl (o_keep (kp [0,1,4,7,8,9] rfl) (r_seq (r_cond _ rfl (fun h1=>?_) (fun h1=>?_)))))
  ·skip
   obtain⟨x,hx⟩:=getlt (l:=l) (i:=i) (by have:=of_decide_eq_true h1;omega)
   have hil:=(List.getElem?_eq_some_iff.1 hx).1
   refine r_skip (r_seq (r_block (r_sr (p_mv rfl rfl (p_as rfl rfl (o_keep (kp [0,1,4,5,7,8] rfl) (r_sr ?_)))))))
   refine p_mv rfl rfl (p_mv rfl rfl (p_mv rfl rfl (p_idx Tryz.underlying167 (.ofC tc_4) hv rfl (mapget hx) rfl rfl rfl (p_ldat 0 tc_4 (Rd.ent hv (eJ (by repeat constructor))) (mapget hx) rfl rfl rfl rfl ?_))))
   refine l_op (x_p (pv_beq Tryz.underlying4 (.n rfl) rfl rfl rfl fS) rfl rfl (o_keep (kp [0,1,4,5,7,8,16] rfl) (r_cond _ rfl (fun h2=>?_) (fun h2=>?_))))
   ·skip
    have hpt:a=x:=by simpa using h2
    refine r_sr (p_mv rfl rfl (p_as rfl rfl (o_keep (kp [0,1,4,7,8] rfl) ?_)))
    refine r_retv hF rfl (.c (.t rfl) .n) ?_ ?_
    ·apply eI;repeat constructor
    ·exact int_eq (idxI_hit hx (by simpa using hpt.symm) hI).symm
   ·skip
    have hpf:¬ a=x:=by simpa using h2
    refine r_skip (r_end (r_region (p_add rfl rfl (by omega) rfl (p_mv rfl rfl (o_keep (kp [0,1,4,7,8] rfl) ?_)))))
    refine r_back_1 (i+1) ?_ ?_ (Keep.app (kp [8] rfl) (kp [0,1,4,7] rfl)) ?_
    ·exact⟨by omega,idx_step hI hx (by simpa using fun e=>hpf e.symm)⟩
    ·omega
    ·apply eI;repeat constructor
  ·skip
   have hil:l.length≤i:=by have:=of_decide_eq_false h1;omega
   refine r_exit rfl (r_sr (p_as rfl rfl (o_keep (kp [4] rfl) ?_)))
   refine r_retv hF rfl (.c (.t rfl) .n) ?_ ?_
   ·apply eI;repeat constructor
   ·exact int_eq (idxI_miss fun j x hj=>hI j x (by omega)).symm
theorem bool_Contains (M:Amb)(H:List HP)(v:Value)(l:List Bool)(a:Bool)(hv:Rd M H v 1 (l.map rBo))(hb:l.length≤100000):FnV Tryz.prog M H 177 [v,.bool a] (.bool (l.contains a)):=by
 refine fn_intro Tryz.func177 rfl Tryz.ntmps177 rfl fun F hF=>?_
 refine r_sr (p_as rfl rfl (o_keep (kp [0,1,4] rfl) (r_sr (p_mv rfl rfl (p_mv rfl rfl ?_)))))
 refine p_callv cf_185 (.c rfl (.c rfl .n)) rfl (bool_Index _ _ v l a (Rd.ent hv (eJ (by repeat constructor))) hb) ?_
 refine p_geq rfl rfl rfl (p_as rfl rfl (o_keep (kp [4] rfl) ?_))
 refine r_retv hF rfl (.c (.t rfl) .n) ?_ ?_
 ·apply eI;repeat constructor
 ·exact bool_eq (idxI_has l a)
theorem eq_Want{m n:Want}:EqT Tryz.prog 93 (rW m) (rW n) (decide (m=n)):=
  ⟨Tryz.eqGuardType93,fun w=>by
    obtain⟨a,b⟩:=m
    obtain⟨a',b'⟩:=n
    simp only[rW]
    rw[show (10000:Nat)=9998+1+1 from rfl,run_equalIn_agg w _ _ _ _ Tryz.underlying93 Tryz.stoodInHeld93]
    by_cases h1:a=a'<;>by_cases h2:b=b'<;>simp[Program.fieldsOf,Op.eqFields,part,run_equalIn_int w _ _ _ _ _ _ Tryz.underlying3,h1,h2]⟩
theorem want_Index (M:Amb)(H:List HP)(v:Value)(l:List (Want))(a:Want)(hv:Rd M H v 2 (l.map rW))(hb:l.length≤100000):FnV Tryz.prog M H 176 [v,.agg (rW a).toArray] (.int .i64 (idxI l fun x=>decide (x=a))):=by
 refine fn_intro Tryz.func176 rfl Tryz.ntmps176 rfl fun F hF=>?_
 refine r_sr (p_box rfl rfl rfl fun b3=>?_)
 refine p_as rfl rfl (o_keep (kp [0,3,4] rfl) (r_seq (r_sr (p_mv rfl rfl (l_op (x_p (pv_lens hv.len ⟨_,Tryz.underlying89⟩ (.n rfl) rfl rfl rfl rfl fR) rfl rfl (p_mv rfl rfl (o_keep (kp [0,3,4,7,8] rfl) ?_))))))))
 refine r_block ?_
 refine r_loop_1 (fun (i:Nat)=>[(8,true,.int .i64 (i:Int))]) (kp [0,3,4,7] rfl) (fun (i:Nat)=>blk b3 (rW a) 93::H) (fun (i:Nat)=>i≤l.length∧∀ (j:Nat) x,j<i→l[j]?=some x→decide (x=a)=false) (fun (i:Nat)=>l.length - i) (0) ?_ (kp [8] rfl) ?_ (fun i hI=>?_)
 ·exact⟨Nat.zero_le _,fun j x hj=>by omega⟩
 ·apply eI;repeat constructor
 ·skip
  obtain⟨_,hI⟩:=hI
  refine r_sr (p_lss rfl rfl rfl (o_keep (kp [0,3,4,7,8,9] rfl) (r_seq (r_cond _ rfl (fun h1=>?_) (fun h1=>?_)))))
  ·skip
   obtain⟨x,hx⟩:=getlt (l:=l) (i:=i) (by have:=of_decide_eq_true h1;omega)
   have hil:=(List.getElem?_eq_some_iff.1 hx).1
   refine r_skip (r_seq (r_block (r_sr (p_mv rfl rfl (p_as rfl rfl (o_keep (kp [0,3,4,5,7,8] rfl) (r_seq ?_)))))))
   refine r_plan _ [] mo (kp [0,3,4,5,7,8] rfl) Ent.rfl ?_
   refine yr 0 [.k 3] rfl rfl (by kernel_rfl) (fun He=>q_lda ta_93 (.n rfl) rfl rfl fR (Tk.all rfl)) ?_
   refine yp 1 [.k 0] rfl rfl (by kernel_rfl) (u_mv rfl rfl rfl) (yp 2 [.k 5] rfl rfl (by kernel_rfl) (u_mv rfl rfl rfl) (yp 3 [.o 1,.o 2] rfl rfl (by kernel_rfl) (pv_idx Tryz.underlying89 (.ofA ta_93) hv (fun hg=>⟨rfl,(mapget hx)⟩) (.n rfl) rfl rfl rfl fS) ?_))
   refine yr 4 [.o 3] rfl rfl (by kernel_rfl) (fun He=>rv_ldats (j:=0) ta_93 (Rd.ent hv (eJ (by repeat constructor))) (fun hg=>(mapget hx)) (.n rfl) rfl rfl fR rfl (.s (.s .z))) ?_
   refine yp 5 [.o 0,.o 4] rfl rfl (by kernel_rfl) (pv_aeq (eq_Want) (.n rfl) rfl rfl rfl fS) ?_
   refine qm_n (by kernel_rfl) (by kernel_rfl) (by kernel_rfl) (by kernel_rfl) (kp [0,3,4,5,7,8,16] rfl) ?_
   refine r_cond _ rfl (fun h2=>?_) (fun h2=>?_)
   ·skip
    have hpt:a=x:=by simpa using h2
    refine r_sr (p_mv rfl rfl (p_as rfl rfl (o_keep (kp [0,3,4,7,8] rfl) ?_)))
    refine r_retv hF rfl (.c (.t rfl) .n) ?_ ?_
    ·apply eI;repeat constructor
    ·exact int_eq (idxI_hit hx (by simpa using hpt.symm) hI).symm
   ·skip
    have hpf:¬ a=x:=by simpa using h2
    refine r_skip (r_end (r_region (p_add rfl rfl (by omega) rfl (p_mv rfl rfl (o_keep (kp [0,3,4,7,8] rfl) ?_)))))
    refine r_back_1 (i+1) ?_ ?_ (Keep.app (kp [8] rfl) (kp [0,3,4,7] rfl)) ?_
    ·exact⟨by omega,idx_step hI hx (by simpa using fun e=>hpf e.symm)⟩
    ·omega
    ·apply eI;repeat constructor
  ·skip
   have hil:l.length≤i:=by have:=of_decide_eq_false h1;omega
   refine r_exit rfl (r_sr (p_as rfl rfl (o_keep (kp [4] rfl) ?_)))
   refine r_retv hF rfl (.c (.t rfl) .n) ?_ ?_
   ·apply eI;repeat constructor
   ·exact int_eq (idxI_miss fun j x hj=>hI j x (by omega)).symm
theorem plan_ShopsN (M:Amb)(A:List HP)(v:Value)(l:List Want)(hv:Rd M A v 2 (l.map rW))(hb:l.length≤100000):FnN (α:=Value) Tryz.prog M 111 [v] A (fun x=>x) (fun x=>[sl x 3 1 ((shopsL l).map rI)]):=plan_Shops M A v l hv hb
theorem yset{l:List Bool}{j:Nat}:(l.map rBo).set j [Value.bool true]=(l.set j true).map rBo:=by rw[List.map_set];rfl
theorem broker_say (M:Amb)(b:Nat)(s:BrokS)(hI:BInv s)(dv ov:Value)(bs:List Nat)(hbl:bs.length=s.l.length)(i:Nat)(d:Deal)(hd:s.l[i]?=some d)(q:Nat)(hq:bs[i]?=some q)(m:Mail)(hm:m.deal=(i:Int))(hk:m.kind=2):FnC Tryz.prog M 163 [ptr b,vM m,ptr q] (resVal []) [blk b [dv,ov] 119,sl dv 170 1 (bs.map rPt),sl ov 3 1 (s.order.map rI),manyP dealP bs s.l] [brokP b (hearB s m)]:=by
 have hor:=hI.ord_le
 have hdk:=hI.d d (List.mem_of_getElem? hd)
 have hle:=hdk.le
 have hyl:=hdk.y
 obtain⟨mk,md,ms,mc,ml,my⟩:=m
 dsimp only at hm hk
 subst hm
 subst hk
 have hat:=hearB_at (m:=⟨2,(i:Int),ms,mc,ml,my⟩) hd rfl
 dsimp only at hat
 rw[if_pos rfl] at hat
 refine fnc_intro Tryz.func163 rfl Tryz.ntmps163 rfl fun R F hF=>?_
 refine r_cat ?_
 refine r_rd dv fun hrd=>?_
 refine r_rd ov fun hro=>?_
 have hil:=(List.getElem?_eq_some_iff.1 hd).1
 refine r_deal i hq hd ?_
 refine r_ex3 fun wv yv tv=>?_
 refine r_cat ?_
 refine r_rd wv fun hrw=>?_
 refine r_rd yv fun hry=>?_
 refine r_rd tv fun hrt=>?_
 refine r_sr (p_box rfl rfl rfl fun b4=>?_)
 refine o_keep (kp [0,2,4] rfl) (r_seq ?_)
 rcases sayCases d.wants mc ml ms with ⟨ha,hix⟩|⟨j,ha,hix,hjl,hs⟩|⟨j,ha,hix,hjl,hs⟩
 ·skip
  rw[ha] at hat
  dsimp only at hat
  refine r_plan _ [] mo (kp [0,2,4] rfl) Ent.rfl ?_
  refine yp 0 [.k 2] rfl rfl (by kernel_rfl) (u_mv rfl rfl rfl) (yp 1 [.o 0] rfl rfl (by kernel_rfl) (u_nil rfl rfl rfl) (yp 2 [.o 1] rfl rfl (by kernel_rfl) (u_fa fa_169_0 rfl rfl rfl) (yr 3 [.o 2] rfl rfl (by kernel_rfl) (fun He=>u_ldc tc_89 rfl rfl rfl (by rfl)) ?_)))
  refine yp 4 [.k 4] rfl rfl (by kernel_rfl) (u_fa fa_139_3 rfl rfl rfl) (yr 5 [.o 4] rfl rfl (by kernel_rfl) (fun He=>q_lda ta_93 (.n rfl) rfl rfl fR (by exact (.s (.s .z)))) ?_)
  refine yq 6 [.o 3,.o 5] rfl rfl (by kernel_rfl) (fun He=>rq_call cf_176 (.n rfl) rfl (.c rfl fR (.c rfl fR .n)) (fun hg=>fnv_to (want_Index _ _ wv d.wants ⟨mc,ml⟩ (Rd.ent hrw (eJ (by repeat constructor))) (by omega)) hix)) ?_
  refine yp 7 [.o 6] rfl rfl (by kernel_rfl) (u_as rfl rfl rfl) ?_
  refine qm_n (by kernel_rfl) (by kernel_rfl) (by kernel_rfl) (by kernel_rfl) (kp [0,2,4,6] rfl) ?_
  refine r_seq (r_seq ?_)
  refine r_plan _ [] mo (kp [0,2,4,6] rfl) Ent.rfl ?_
  refine yp 0 [.k 6] rfl rfl (by kernel_rfl) (u_mv rfl rfl rfl) (yp 1 [.o 0] rfl rfl (by kernel_rfl) (pv_to (pv_lss (.n rfl) rfl rfl rfl fS) (show _=Value.bool true from bool_eq (decide_eq_true (by omega)))) (yp 2 [.o 1] rfl rfl (by kernel_rfl) (u_mv rfl rfl rfl) ?_))
  refine yq 3 [.k 4,.o 2] rfl rfl (by kernel_rfl) (fun He=>rq_no (v:=.bool false) (.s rfl rfl rfl) rfl) ?_
  refine yq 4 [.o 3,.o 2] rfl rfl (by kernel_rfl) (fun He=>rq_no (v:=.bool false) (.s rfl rfl rfl) rfl) ?_
  refine yq 5 [.o 4,.o 2] rfl rfl (by kernel_rfl) (fun He=>rq_no (v:=.bool false) (.s rfl rfl rfl) rfl) ?_
  refine yq 6 [.o 5,.o 2] rfl rfl (by kernel_rfl) (fun He=>rq_no (v:=.bool false) (.s rfl rfl rfl) rfl) ?_
  refine yq 7 [.k 4,.o 2] rfl rfl (by kernel_rfl) (fun He=>rq_no (v:=.bool false) (.s rfl rfl rfl) rfl) ?_
  refine yq 8 [.o 7,.o 2] rfl rfl (by kernel_rfl) (fun He=>rq_no (v:=.bool false) (.s rfl rfl rfl) rfl) ?_
  refine yq 9 [.o 6,.o 8,.o 2] rfl rfl (by kernel_rfl) (fun He=>rq_no (v:=.bool false) (.s rfl rfl rfl) rfl) ?_
  refine yp 10 [.o 2,.o 9] rfl rfl (by kernel_rfl) (pv_ort (.n rfl) rfl rfl fR) (yp 11 [.o 10] rfl rfl (by kernel_rfl) (u_mv rfl rfl rfl) ?_)
  refine yq 12 [.k 2,.o 11] rfl rfl (by kernel_rfl) (fun He=>rq_no (v:=.bool false) (.s rfl rfl rfl) rfl) ?_
  refine yq 13 [.o 12,.o 11] rfl rfl (by kernel_rfl) (fun He=>rq_no (v:=.bool false) (.s rfl rfl rfl) rfl) ?_
  refine yq 14 [.o 13,.o 11] rfl rfl (by kernel_rfl) (fun He=>rq_no (v:=.bool false) (.s rfl rfl rfl) rfl) ?_
  refine yq 15 [.o 14,.o 11] rfl rfl (by kernel_rfl) (fun He=>rq_no (v:=.bool false) (.s rfl rfl rfl) rfl) ?_
  refine yq 16 [.o 15,.o 11] rfl rfl (by kernel_rfl) (fun He=>rq_no (v:=.bool false) (.s rfl rfl rfl) rfl) ?_
  refine yp 17 [.o 11,.o 16] rfl rfl (by kernel_rfl) (pv_ort (.n rfl) rfl rfl fR) ?_
  refine qm_n (by kernel_rfl) (by kernel_rfl) (by kernel_rfl) (by kernel_rfl) (kp [0,2,4,6,31] rfl) ?_
  refine r_cond _ rfl (fun h1=>?_) (fun h1=>?_)
  ·skip
   have hh:=hat
   refine r_retv hF rfl .n ?_ ?_
   ·refine Ent.catI ?_;rw[hh];refine Ent.tr (dealP_close (q:=q) (d:=d) wv yv tv rfl rfl rfl rfl) ?_;refine Ent.tr (Ent.mono (SelX.ent (X:=restP dealP bs s.l i))) ?_;refine Ent.tr (many_back hq hd) ?_;refine Ent.tr (brokP_close (b:=b) (s:=s) dv ov bs (by simp[hbl]) rfl rfl rfl) ?_;apply eI;repeat constructor
   ·rfl
  ·simp at h1
 ·skip
  rw[ha] at hat
  dsimp only at hat
  rw[if_pos (.inl hs)] at hat
  refine r_plan _ [] mo (kp [0,2,4] rfl) Ent.rfl ?_
  refine yp 0 [.k 2] rfl rfl (by kernel_rfl) (u_mv rfl rfl rfl) (yp 1 [.o 0] rfl rfl (by kernel_rfl) (u_nil rfl rfl rfl) (yp 2 [.o 1] rfl rfl (by kernel_rfl) (u_fa fa_169_0 rfl rfl rfl) (yr 3 [.o 2] rfl rfl (by kernel_rfl) (fun He=>u_ldc tc_89 rfl rfl rfl (by rfl)) ?_)))
  refine yp 4 [.k 4] rfl rfl (by kernel_rfl) (u_fa fa_139_3 rfl rfl rfl) (yr 5 [.o 4] rfl rfl (by kernel_rfl) (fun He=>q_lda ta_93 (.n rfl) rfl rfl fR (by exact (.s (.s .z)))) ?_)
  refine yq 6 [.o 3,.o 5] rfl rfl (by kernel_rfl) (fun He=>rq_call cf_176 (.n rfl) rfl (.c rfl fR (.c rfl fR .n)) (fun hg=>fnv_to (want_Index _ _ wv d.wants ⟨mc,ml⟩ (Rd.ent hrw (eJ (by repeat constructor))) (by omega)) hix)) ?_
  refine yp 7 [.o 6] rfl rfl (by kernel_rfl) (u_as rfl rfl rfl) ?_
  refine qm_n (by kernel_rfl) (by kernel_rfl) (by kernel_rfl) (by kernel_rfl) (kp [0,2,4,6] rfl) ?_
  refine r_seq (r_seq ?_)
  refine r_plan _ [] mo (kp [0,2,4,6] rfl) Ent.rfl ?_
  refine yp 0 [.k 6] rfl rfl (by kernel_rfl) (u_mv rfl rfl rfl) (yp 1 [.o 0] rfl rfl (by kernel_rfl) (pv_to (pv_lss (.n rfl) rfl rfl rfl fS) (show _=Value.bool false from bool_eq (decide_eq_false (by omega)))) (yp 2 [.o 1] rfl rfl (by kernel_rfl) (u_mv rfl rfl rfl) ?_))
  refine yp 3 [.k 4,.o 2] rfl rfl (by kernel_rfl) (pv_ung (.s rfl rfl rfl) rfl (u_fa fa_139_3 rfl rfl rfl)) (yp 4 [.o 3,.o 2] rfl rfl (by kernel_rfl) (pv_ung (.s rfl rfl rfl) rfl (u_fa fa_93_0 rfl rfl rfl)) (yr 5 [.o 4,.o 2] rfl rfl (by kernel_rfl) (fun He=>rv_ung (.s rfl rfl rfl) rfl (u_ldc tc_3 rfl rfl rfl (by rfl))) ?_))
  refine yq 6 [.o 5,.o 2] rfl rfl (by kernel_rfl) (fun He=>rq_ung (.s rfl rfl rfl) rfl (rq_call cf_113 (.n rfl) rfl (.c rfl fR .n) (fun hg=>plan_Shop _ _ _))) ?_
  refine yp 7 [.k 4,.o 2] rfl rfl (by kernel_rfl) (pv_ung (.s rfl rfl rfl) rfl (u_fa fa_139_2 rfl rfl rfl)) (yr 8 [.o 7,.o 2] rfl rfl (by kernel_rfl) (fun He=>rv_ung (.s rfl rfl rfl) rfl (u_ldc tc_3 rfl rfl rfl (by rfl))) ?_)
  refine yp 9 [.o 6,.o 8,.o 2] rfl rfl (by kernel_rfl) (pv_ung (.s rfl rfl rfl) rfl (pv_to (pv_neq (.n rfl) rfl rfl rfl fS) (show _=Value.bool true from bool_eq (by simp[hs])))) ?_
  refine yp 10 [.o 2,.o 9] rfl rfl (by kernel_rfl) (pv_or (.n rfl) rfl rfl rfl (fun _=>⟨rfl,fun hc=>by first|rfl|(rw[hc];rfl)|simp_all⟩)) ?_
  refine yp 11 [.o 10] rfl rfl (by kernel_rfl) (u_mv rfl rfl rfl) ?_
  refine yq 12 [.k 2,.o 11] rfl rfl (by kernel_rfl) (fun He=>rq_no (v:=.bool false) (.s rfl rfl rfl) rfl) ?_
  refine yq 13 [.o 12,.o 11] rfl rfl (by kernel_rfl) (fun He=>rq_no (v:=.bool false) (.s rfl rfl rfl) rfl) ?_
  refine yq 14 [.o 13,.o 11] rfl rfl (by kernel_rfl) (fun He=>rq_no (v:=.bool false) (.s rfl rfl rfl) rfl) ?_
  refine yq 15 [.o 14,.o 11] rfl rfl (by kernel_rfl) (fun He=>rq_no (v:=.bool false) (.s rfl rfl rfl) rfl) ?_
  refine yq 16 [.o 15,.o 11] rfl rfl (by kernel_rfl) (fun He=>rq_no (v:=.bool false) (.s rfl rfl rfl) rfl) ?_
  refine yp 17 [.o 11,.o 16] rfl rfl (by kernel_rfl) (pv_ort (.n rfl) rfl rfl fR) ?_
  refine qm_n (by kernel_rfl) (by kernel_rfl) (by kernel_rfl) (by kernel_rfl) (kp [0,2,4,6,31] rfl) ?_
  refine r_cond _ rfl (fun h2=>?_) (fun h2=>?_)
  ·skip
   have hh:=hat
   refine r_retv hF rfl .n ?_ ?_
   ·refine Ent.catI ?_;rw[hh];refine Ent.tr (dealP_close (q:=q) (d:=d) wv yv tv rfl rfl rfl rfl) ?_;refine Ent.tr (Ent.mono (SelX.ent (X:=restP dealP bs s.l i))) ?_;refine Ent.tr (many_back hq hd) ?_;refine Ent.tr (brokP_close (b:=b) (s:=s) dv ov bs (by simp[hbl]) rfl rfl rfl) ?_;apply eI;repeat constructor
   ·rfl
  ·simp at h2
 ·skip
  rw[ha] at hat
  dsimp only at hat
  obtain⟨y0,hy0⟩:=getlt (l:=d.yes) (i:=j) (by omega)
  refine r_plan _ [] mo (kp [0,2,4] rfl) Ent.rfl ?_
  refine yp 0 [.k 2] rfl rfl (by kernel_rfl) (u_mv rfl rfl rfl) (yp 1 [.o 0] rfl rfl (by kernel_rfl) (u_nil rfl rfl rfl) (yp 2 [.o 1] rfl rfl (by kernel_rfl) (u_fa fa_169_0 rfl rfl rfl) (yr 3 [.o 2] rfl rfl (by kernel_rfl) (fun He=>u_ldc tc_89 rfl rfl rfl (by rfl)) ?_)))
  refine yp 4 [.k 4] rfl rfl (by kernel_rfl) (u_fa fa_139_3 rfl rfl rfl) (yr 5 [.o 4] rfl rfl (by kernel_rfl) (fun He=>q_lda ta_93 (.n rfl) rfl rfl fR (by exact (.s (.s .z)))) ?_)
  refine yq 6 [.o 3,.o 5] rfl rfl (by kernel_rfl) (fun He=>rq_call cf_176 (.n rfl) rfl (.c rfl fR (.c rfl fR .n)) (fun hg=>fnv_to (want_Index _ _ wv d.wants ⟨mc,ml⟩ (Rd.ent hrw (eJ (by repeat constructor))) (by omega)) hix)) ?_
  refine yp 7 [.o 6] rfl rfl (by kernel_rfl) (u_as rfl rfl rfl) ?_
  refine qm_n (by kernel_rfl) (by kernel_rfl) (by kernel_rfl) (by kernel_rfl) (kp [0,2,4,6] rfl) ?_
  refine r_seq (r_seq ?_)
  refine r_plan _ [] mo (kp [0,2,4,6] rfl) Ent.rfl ?_
  refine yp 0 [.k 6] rfl rfl (by kernel_rfl) (u_mv rfl rfl rfl) (yp 1 [.o 0] rfl rfl (by kernel_rfl) (pv_to (pv_lss (.n rfl) rfl rfl rfl fS) (show _=Value.bool false from bool_eq (decide_eq_false (by omega)))) (yp 2 [.o 1] rfl rfl (by kernel_rfl) (u_mv rfl rfl rfl) ?_))
  refine yp 3 [.k 4,.o 2] rfl rfl (by kernel_rfl) (pv_ung (.s rfl rfl rfl) rfl (u_fa fa_139_3 rfl rfl rfl)) (yp 4 [.o 3,.o 2] rfl rfl (by kernel_rfl) (pv_ung (.s rfl rfl rfl) rfl (u_fa fa_93_0 rfl rfl rfl)) (yr 5 [.o 4,.o 2] rfl rfl (by kernel_rfl) (fun He=>rv_ung (.s rfl rfl rfl) rfl (u_ldc tc_3 rfl rfl rfl (by rfl))) ?_))
  refine yq 6 [.o 5,.o 2] rfl rfl (by kernel_rfl) (fun He=>rq_ung (.s rfl rfl rfl) rfl (rq_call cf_113 (.n rfl) rfl (.c rfl fR .n) (fun hg=>plan_Shop _ _ _))) ?_
  refine yp 7 [.k 4,.o 2] rfl rfl (by kernel_rfl) (pv_ung (.s rfl rfl rfl) rfl (u_fa fa_139_2 rfl rfl rfl)) (yr 8 [.o 7,.o 2] rfl rfl (by kernel_rfl) (fun He=>rv_ung (.s rfl rfl rfl) rfl (u_ldc tc_3 rfl rfl rfl (by rfl))) ?_)
  refine yp 9 [.o 6,.o 8,.o 2] rfl rfl (by kernel_rfl) (pv_ung (.s rfl rfl rfl) rfl (pv_to (pv_neq (.n rfl) rfl rfl rfl fS) (show _=Value.bool false from bool_eq (by simp[hs])))) ?_
  refine yp 10 [.o 2,.o 9] rfl rfl (by kernel_rfl) (pv_or (.n rfl) rfl rfl rfl (fun _=>⟨rfl,fun hc=>by first|rfl|(rw[hc];rfl)|simp_all⟩)) ?_
  refine yp 11 [.o 10] rfl rfl (by kernel_rfl) (u_mv rfl rfl rfl) (yp 12 [.k 2,.o 11] rfl rfl (by kernel_rfl) (pv_ung (.s rfl rfl rfl) rfl (u_mv rfl rfl rfl)) (yp 13 [.o 12,.o 11] rfl rfl (by kernel_rfl) (pv_ung (.s rfl rfl rfl) rfl (u_nil rfl rfl rfl)) ?_))
  refine yp 14 [.o 13,.o 11] rfl rfl (by kernel_rfl) (pv_ung (.s rfl rfl rfl) rfl (u_fa fa_169_1 rfl rfl rfl)) (yr 15 [.o 14,.o 11] rfl rfl (by kernel_rfl) (fun He=>rv_ung (.s rfl rfl rfl) rfl (u_ldc tc_3 rfl rfl rfl (by rfl))) ?_)
  refine yp 16 [.o 15,.o 11] rfl rfl (by kernel_rfl) (pv_ung (.s rfl rfl rfl) rfl (pv_neq (.n rfl) rfl rfl rfl fS)) ?_
  refine yp 17 [.o 11,.o 16] rfl rfl (by kernel_rfl) (pv_or (.n rfl) rfl rfl rfl (fun _=>⟨rfl,fun hc=>by first|rfl|(rw[hc];rfl)|simp_all⟩)) ?_
  refine qm_n (by kernel_rfl) (by kernel_rfl) (by kernel_rfl) (by kernel_rfl) (kp [0,2,4,6,31] rfl) ?_
  refine r_cond _ rfl (fun h3=>?_) (fun h3=>?_)
  ·skip
   have h0:d.state≠0:=by simpa using h3
   rw[if_pos (.inr h0)] at hat
   have hh:=hat
   refine r_retv hF rfl .n ?_ ?_
   ·refine Ent.catI ?_;rw[hh];refine Ent.tr (dealP_close (q:=q) (d:=d) wv yv tv rfl rfl rfl rfl) ?_;refine Ent.tr (Ent.mono (SelX.ent (X:=restP dealP bs s.l i))) ?_;refine Ent.tr (many_back hq hd) ?_;refine Ent.tr (brokP_close (b:=b) (s:=s) dv ov bs (by simp[hbl]) rfl rfl rfl) ?_;apply eI;repeat constructor
   ·rfl
  ·skip
   have h0:d.state=0:=by simpa using h3
   rw[if_neg (by omega)] at hat
   refine r_skip (r_seq (r_sr (p_fa fa_139_4 rfl rfl (p_ldc tc_4 rfl (by rfl) rfl ?_))))
   refine p_not rfl rfl (o_keep (kp [0,2,4,6,34] rfl) (r_cond _ rfl (fun h4=>?_) (fun h4=>?_)))
   ·skip
    have h1:my=false:=by simpa using h4
    rw[if_pos h1] at hat
    have hh:=hat
    refine r_seq ?_
    refine r_ent (dealP_close (q:=q) (d:=d) wv yv tv rfl rfl rfl rfl) ?_
    refine r_ent (Ent.mono (SelX.ent (X:=restP dealP bs s.l i))) ?_
    refine r_ent (many_back hq hd) ?_
    refine r_ent (brokP_close (b:=b) (s:=s) dv ov bs (by simp[hbl]) rfl rfl rfl) ?_
    refine r_region (p_mv rfl rfl (p_fa fa_139_1 rfl rfl (p_ldc tc_3 rfl (by rfl) rfl ?_)))
    refine p_callc cf_138 (.c rfl (.c rfl (.c rfl .n))) rfl (broker_decide _ b s i d hd 2 (by omega)) ?_
    refine o_keep (kp [0,2,4,6] rfl) ?_
    refine r_retv hF rfl .n ?_ ?_
    ·refine Ent.catI ?_;rw[hh];refine Ent.c (SelX.ent) ?_;apply eI;repeat constructor
    ·rfl
   ·skip
    have h1:my=true:=by simpa using h4
    rw[if_neg (by simp[h1])] at hat
    refine r_skip (r_sr (p_mv rfl rfl (p_nil rfl rfl (p_fa fa_169_2 rfl rfl (p_ldc tc_167 rfl (by rfl) rfl ?_)))))
    refine p_mv rfl rfl (p_idx Tryz.underlying167 (.ofC tc_4) hry rfl (mapget hy0) rfl rfl rfl ?_)
    refine p_stel 0 (.ofC tc_4) rfl (show (d.yes.map rBo)[j]?=some [Value.bool y0] from mapget hy0) rfl rfl rfl rfl rfl (by repeat constructor) ?_
    refine o_keep (kp [0,2,4] rfl) (r_seq ?_)
    rw[yset]
    refine r_rd yv fun hry2=>?_
    refine r_region (p_mv rfl rfl (p_nil rfl rfl (p_fa fa_169_2 rfl rfl (p_ldc tc_167 rfl (by rfl) rfl ?_))))
    refine p_callv cf_177 (.c rfl (.c rfl .n)) rfl (bool_Contains _ _ yv (d.yes.set j true) false (Rd.ent hry2 (eJ (by repeat constructor))) (by simp;omega)) ?_
    refine p_not rfl rfl (o_keep (kp [0,4,50] rfl) (r_cond _ rfl (fun h5=>?_) (fun h5=>?_)))
    ·skip
     have h2:(d.yes.set j true).contains false=false:=by simpa using h5
     rw[if_neg (by rw[h2];simp)] at hat
     have hh:=hat
     refine r_ent (dealP_close (q:=q) (d:={d with yes:=d.yes.set j true}) wv yv tv rfl rfl rfl rfl) ?_
     refine r_ent (Ent.mono (SelX.ent (X:=restP dealP bs s.l i))) ?_
     refine r_ent (many_in hq hd) ?_
     refine r_ent (brokP_close (b:=b) (s:=⟨s.l.set i {d with yes:=d.yes.set j true},s.order⟩) dv ov bs (by simp[hbl]) rfl rfl rfl) ?_
     refine r_region (p_mv rfl rfl (p_fa fa_139_1 rfl rfl (p_ldc tc_3 rfl (by rfl) rfl ?_)))
     refine p_callc cf_138 (.c rfl (.c rfl (.c rfl .n))) rfl (broker_decide _ b ⟨s.l.set i {d with yes:=d.yes.set j true},s.order⟩ i {d with yes:=d.yes.set j true} (by simp[hil]) 1 (by dsimp only;omega)) ?_
     refine o_keep (.n) ?_
     refine r_fallc hF rfl ?_
     ·refine Ent.catI ?_;rw[hh];refine Ent.c (SelX.ent) ?_;apply eI;repeat constructor
    ·skip
     have h2:(d.yes.set j true).contains false=true:=by simpa using h5
     rw[if_pos h2] at hat
     have hh:=hat
     refine r_skip ?_
     refine r_fallc hF rfl ?_
     ·refine Ent.catI ?_;rw[hh];refine Ent.tr (dealP_close (q:=q) (d:={d with yes:=d.yes.set j true}) wv yv tv rfl rfl rfl rfl) ?_;refine Ent.tr (Ent.mono (SelX.ent (X:=restP dealP bs s.l i))) ?_;refine Ent.tr (many_in hq hd) ?_;refine Ent.tr (brokP_close (b:=b) (s:=⟨s.l.set i {d with yes:=d.yes.set j true},s.order⟩) dv ov bs (by simp[hbl]) rfl rfl rfl) ?_;apply eI;repeat constructor
theorem broker_Hear (M:Amb)(b:Nat)(s:BrokS)(hI:BInv s)(m:Mail):FnC Tryz.prog M 140 [ptr b,vM m] (resVal []) [brokP b s] [brokP b (hearB s m)]:=by
 have hor:=hI.ord_le
 refine fnc_intro Tryz.func140 rfl Tryz.ntmps140 rfl fun R F hF=>?_
 refine r_cat ?_
 refine r_sr (p_box rfl rfl rfl fun b3=>?_)
 refine o_keep (kp [0,3] rfl) (r_seq (r_sr (p_mv rfl rfl (p_fa fa_139_1 rfl rfl (p_ldc tc_3 rfl (by rfl) rfl ?_)))))
 refine p_callv cf_63 (.c rfl (.c rfl .n)) rfl ((broker_State _ b s hI m.deal).q) ?_
 refine p_lss rfl rfl rfl (o_keep (kp [0,3,9] rfl) (r_cond _ rfl (fun h1=>?_) (fun h1=>?_)))
 ·skip
  have hn:=of_decide_eq_true h1
  have hh:hearB s m=s:=hearB_out (by rcases hI.st m.deal with h|h;exact h.2;omega)
  refine r_retv hF rfl .n ?_ ?_
  ·refine Ent.catI ?_;rw[hh];refine Ent.c (SelX.ent) ?_;apply eI;repeat constructor
  ·rfl
 ·skip
  have hn:=of_decide_eq_false h1
  obtain⟨i,d,hm,hd⟩:∃ (i:Nat) (d:Deal),m.deal=(i:Int)∧s.l[i]?=some d:=by rcases hI.st m.deal with h|h;omega;exact⟨m.deal.toNat,s.l[m.deal.toNat]'(by omega),by omega,List.getElem?_eq_getElem (by omega)⟩
  have hil:=(List.getElem?_eq_some_iff.1 hd).1
  have hdk:=hI.d d (List.mem_of_getElem? hd)
  have hle:=hdk.le
  have hat:=hearB_at (m:=m) hd hm
  refine r_skip (r_seq ?_)
  refine r_sel (brokP b s) ?_
  refine r_brok fun dv ov bs hbl=>?_
  refine r_cat ?_
  refine r_rd dv fun hrd=>?_
  refine r_rd ov fun hro=>?_
  obtain⟨q,hq⟩:=getlt (l:=bs) (i:=i) (by omega)
  refine r_plan _ [] mo (kp [0,3] rfl) Ent.rfl ?_
  refine yp 0 [.k 0] rfl rfl (by kernel_rfl) (u_mv rfl rfl rfl) (yp 1 [.o 0] rfl rfl (by kernel_rfl) (u_nil rfl rfl rfl) (yp 2 [.o 1] rfl rfl (by kernel_rfl) (u_fa fa_119_0 rfl rfl rfl) (yr 3 [.o 2] rfl rfl (by kernel_rfl) (fun He=>u_ldc tc_117 rfl rfl rfl (by rfl)) ?_)))
  refine yp 4 [.k 3] rfl rfl (by kernel_rfl) (u_fa fa_139_1 rfl rfl rfl) (yr 5 [.o 4] rfl rfl (by kernel_rfl) (fun He=>u_ldc tc_3 rfl rfl rfl (by rfl)) ?_)
  refine yp 6 [.o 3,.o 5] rfl rfl (by kernel_rfl) (pv_idx Tryz.underlying117 (.ofC tc_170) hrd (fun hg=>⟨hm,(bptr hq)⟩) (.n rfl) rfl rfl rfl fS) ?_
  refine yr 7 [.o 6] rfl rfl (by kernel_rfl) (fun He=>rv_ldat (j:=0) tc_170 (Rd.ent hrd (eJ (by repeat constructor))) (fun hg=>(bptr hq)) (.n rfl) rfl rfl fR rfl fR) ?_
  refine yp 8 [.o 7] rfl rfl (by kernel_rfl) (u_as rfl rfl rfl) ?_
  refine qm_n (by kernel_rfl) (by kernel_rfl) (by kernel_rfl) (by kernel_rfl) (kp [0,3,4] rfl) ?_
  refine r_sr (p_fa fa_139_0 rfl rfl (p_ldc tc_3 rfl (by rfl) rfl ?_))
  refine o_keep (kp [0,3,4,19] rfl) (r_block (r_sr (p_eql rfl rfl rfl (p_as rfl rfl (o_keep (kp [0,3,4,19,20] rfl) (r_cond _ rfl (fun h2=>?_) (fun h2=>?_)))))))
  ·skip
   have hk:m.kind=2:=of_decide_eq_true h2
   refine r_region (p_mv rfl rfl ?_)
   refine p_lda ta_139 rfl (Tk.all rfl) rfl ?_
   refine p_mv rfl rfl ?_
   refine p_callc cf_163 (.c rfl (.c rfl (.c rfl .n))) rfl (broker_say _ b s hI dv ov bs hbl i d hd q hq m hm hk) ?_
   refine o_keep (.n) (r_end ?_)
   refine r_fallc hF rfl ?_
   ·refine Ent.catI ?_;refine Ent.c (SelX.ent) ?_;apply eI;repeat constructor
  ·skip
   have hk:¬ m.kind=2:=of_decide_eq_false h2
   rw[if_neg hk] at hat
   refine r_sr (p_eql rfl rfl rfl (p_as rfl rfl (o_keep (kp [3,4,26] rfl) (r_cond _ rfl (fun h3=>?_) (fun h3=>?_)))))
   ·skip
    have hk4:m.kind=4:=of_decide_eq_true h3
    rw[if_pos hk4] at hat
    refine r_seq ?_
    rcases overCases d m.shop with h0|⟨h0,hsn⟩|⟨h0,hsn⟩
    ·skip
     refine r_deal i hq hd ?_
     refine r_ex3 fun wv yv tv=>?_
     refine r_cat ?_
     refine r_rd wv fun hrw=>?_
     refine r_rd yv fun hry=>?_
     refine r_rd tv fun hrt=>?_
     refine r_plan _ [] mo (kp [3,4] rfl) Ent.rfl ?_
     refine yp 0 [.k 4] rfl rfl (by kernel_rfl) (u_mv rfl rfl rfl) (yp 1 [.o 0] rfl rfl (by kernel_rfl) (u_nil rfl rfl rfl) (yp 2 [.o 1] rfl rfl (by kernel_rfl) (u_fa fa_169_1 rfl rfl rfl) (yr 3 [.o 2] rfl rfl (by kernel_rfl) (fun He=>u_ldc tc_3 rfl rfl rfl (by rfl)) ?_)))
     refine yp 4 [.o 3] rfl rfl (by kernel_rfl) (pv_to (pv_neq (.n rfl) rfl rfl rfl fS) (show _=Value.bool false from bool_eq (by simp[h0]))) (yp 5 [.o 4] rfl rfl (by kernel_rfl) (u_mv rfl rfl rfl) ?_)
     refine yq 6 [.k 4,.o 5] rfl rfl (by kernel_rfl) (fun He=>rq_no (v:=.bool false) (.s rfl rfl rfl) rfl) ?_
     refine yq 7 [.o 6,.o 5] rfl rfl (by kernel_rfl) (fun He=>rq_no (v:=.bool false) (.s rfl rfl rfl) rfl) ?_
     refine yq 8 [.o 7,.o 5] rfl rfl (by kernel_rfl) (fun He=>rq_no (v:=.bool false) (.s rfl rfl rfl) rfl) ?_
     refine yq 9 [.o 8,.o 5] rfl rfl (by kernel_rfl) (fun He=>rq_no (v:=.bool false) (.s rfl rfl rfl) rfl) ?_
     refine yq 10 [.o 9,.o 5] rfl rfl (by kernel_rfl) (fun He=>rq_no (v:=.bool false) (.s rfl rfl rfl) rfl) ?_
     refine yq 11 [.k 3,.o 5] rfl rfl (by kernel_rfl) (fun He=>rq_no (v:=.bool false) (.s rfl rfl rfl) rfl) ?_
     refine yq 12 [.o 11,.o 5] rfl rfl (by kernel_rfl) (fun He=>rq_no (v:=.bool false) (.s rfl rfl rfl) rfl) ?_
     refine yq 13 [.o 10,.o 12,.o 5] rfl rfl (by kernel_rfl) (fun He=>rq_no (v:=.bool false) (.s rfl rfl rfl) rfl) ?_
     refine yp 14 [.o 5,.o 13] rfl rfl (by kernel_rfl) (pv_andf (.n rfl) rfl rfl fR) (yp 15 [.o 14] rfl rfl (by kernel_rfl) (u_mv rfl rfl rfl) ?_)
     refine yq 16 [.k 4,.o 15] rfl rfl (by kernel_rfl) (fun He=>rq_no (v:=.bool false) (.s rfl rfl rfl) rfl) ?_
     refine yq 17 [.o 16,.o 15] rfl rfl (by kernel_rfl) (fun He=>rq_no (v:=.bool false) (.s rfl rfl rfl) rfl) ?_
     refine yq 18 [.o 17,.o 15] rfl rfl (by kernel_rfl) (fun He=>rq_no (v:=.bool false) (.s rfl rfl rfl) rfl) ?_
     refine yq 19 [.o 18,.o 15] rfl rfl (by kernel_rfl) (fun He=>rq_no (v:=.bool false) (.s rfl rfl rfl) rfl) ?_
     refine yq 20 [.k 3,.o 15] rfl rfl (by kernel_rfl) (fun He=>rq_no (v:=.bool false) (.s rfl rfl rfl) rfl) ?_
     refine yq 21 [.o 20,.o 15] rfl rfl (by kernel_rfl) (fun He=>rq_no (v:=.bool false) (.s rfl rfl rfl) rfl) ?_
     refine yq 22 [.o 19,.o 21,.o 15] rfl rfl (by kernel_rfl) (fun He=>rq_no (v:=.bool false) (.s rfl rfl rfl) rfl) ?_
     refine yq 23 [.o 22,.o 15] rfl rfl (by kernel_rfl) (fun He=>rq_no (v:=.bool false) (.s rfl rfl rfl) rfl) ?_
     refine yp 24 [.o 15,.o 23] rfl rfl (by kernel_rfl) (pv_andf (.n rfl) rfl rfl fR) ?_
     refine qm_n (by kernel_rfl) (by kernel_rfl) (by kernel_rfl) (by kernel_rfl) (kp [3,4,52] rfl) ?_
     refine r_cond _ rfl (fun h4=>?_) (fun h4=>?_)
     ·simp at h4
     ·skip
      rw[if_neg (fun h=>h.1 h0)] at hat
      have hh:=hat
      refine r_skip (r_end ?_)
      refine r_fallc hF rfl ?_
      ·refine Ent.catI ?_;rw[hh];refine Ent.tr (dealP_close (q:=q) (d:=d) wv yv tv rfl rfl rfl rfl) ?_;refine Ent.tr (Ent.mono (SelX.ent (X:=restP dealP bs s.l i))) ?_;refine Ent.tr (many_back hq hd) ?_;refine Ent.tr (brokP_close (b:=b) (s:=s) dv ov bs (by simp[hbl]) rfl rfl rfl) ?_;apply eI;repeat constructor
    ·skip
     refine r_deal i hq hd ?_
     refine r_ex3 fun wv yv tv=>?_
     refine r_cat ?_
     refine r_rd wv fun hrw=>?_
     refine r_rd yv fun hry=>?_
     refine r_rd tv fun hrt=>?_
     refine r_plan _ [] mo (kp [3,4] rfl) Ent.rfl ?_
     refine yp 0 [.k 4] rfl rfl (by kernel_rfl) (u_mv rfl rfl rfl) (yp 1 [.o 0] rfl rfl (by kernel_rfl) (u_nil rfl rfl rfl) (yp 2 [.o 1] rfl rfl (by kernel_rfl) (u_fa fa_169_1 rfl rfl rfl) (yr 3 [.o 2] rfl rfl (by kernel_rfl) (fun He=>u_ldc tc_3 rfl rfl rfl (by rfl)) ?_)))
     refine yp 4 [.o 3] rfl rfl (by kernel_rfl) (pv_to (pv_neq (.n rfl) rfl rfl rfl fS) (show _=Value.bool true from bool_eq (by simp[h0]))) (yp 5 [.o 4] rfl rfl (by kernel_rfl) (u_mv rfl rfl rfl) (yp 6 [.k 4,.o 5] rfl rfl (by kernel_rfl) (pv_ung (.s rfl rfl rfl) rfl (u_mv rfl rfl rfl)) ?_))
     refine yp 7 [.o 6,.o 5] rfl rfl (by kernel_rfl) (pv_ung (.s rfl rfl rfl) rfl (u_nil rfl rfl rfl)) (yp 8 [.o 7,.o 5] rfl rfl (by kernel_rfl) (pv_ung (.s rfl rfl rfl) rfl (u_fa fa_169_0 rfl rfl rfl)) (yr 9 [.o 8,.o 5] rfl rfl (by kernel_rfl) (fun He=>rv_ung (.s rfl rfl rfl) rfl (u_ldc tc_89 rfl rfl rfl (by rfl))) ?_))
     refine yp 11 [.k 3,.o 5] rfl rfl (by kernel_rfl) (pv_ung (.s rfl rfl rfl) rfl (u_fa fa_139_2 rfl rfl rfl)) (yr 12 [.o 11,.o 5] rfl rfl (by kernel_rfl) (fun He=>rv_ung (.s rfl rfl rfl) rfl (u_ldc tc_3 rfl rfl rfl (by rfl))) ?_)
     refine qm_calln (i:=10) [.o 9,.o 5] (by kernel_rfl) (by kernel_rfl) rfl rfl rfl rfl (by kernel_rfl) (by kernel_rfl) ⟨_,.s rfl rfl rfl,rfl⟩ cf_111 rfl (.c rfl .n) (plan_ShopsN _ [sl wv 93 2 (d.wants.map rW)] wv d.wants hrw (by omega)) fun sv=>?_
     refine qm_cat ?_
     refine qm_rd sv fun hrs=>?_
     refine qm_keep ?_
     refine yq 13 [.o 10,.o 12,.o 5] rfl rfl (by kernel_rfl) (fun He=>rq_ung (.s rfl rfl rfl) rfl (rq_call cf_112 (.n rfl) rfl (.c rfl fR (.c rfl fR .n)) (fun hg=>fnv_to (int_Contains _ _ sv (shopsL d.wants) m.shop hrs.own (by have:=shopsN_le [d];have:(shopsL d.wants).length≤3:=List.length_filter_le _ _;omega)) (by rw[hsn])))) ?_
     refine yp 14 [.o 5,.o 13] rfl rfl (by kernel_rfl) (pv_and (.n rfl) rfl rfl rfl (fun _=>⟨rfl,fun hc=>by first|rfl|(rw[hc];rfl)|simp_all⟩)) ?_
     refine yp 15 [.o 14] rfl rfl (by kernel_rfl) (u_mv rfl rfl rfl) ?_
     refine yq 16 [.k 4,.o 15] rfl rfl (by kernel_rfl) (fun He=>rq_no (v:=.bool false) (.s rfl rfl rfl) rfl) ?_
     refine yq 17 [.o 16,.o 15] rfl rfl (by kernel_rfl) (fun He=>rq_no (v:=.bool false) (.s rfl rfl rfl) rfl) ?_
     refine yq 18 [.o 17,.o 15] rfl rfl (by kernel_rfl) (fun He=>rq_no (v:=.bool false) (.s rfl rfl rfl) rfl) ?_
     refine yq 19 [.o 18,.o 15] rfl rfl (by kernel_rfl) (fun He=>rq_no (v:=.bool false) (.s rfl rfl rfl) rfl) ?_
     refine yq 20 [.k 3,.o 15] rfl rfl (by kernel_rfl) (fun He=>rq_no (v:=.bool false) (.s rfl rfl rfl) rfl) ?_
     refine yq 21 [.o 20,.o 15] rfl rfl (by kernel_rfl) (fun He=>rq_no (v:=.bool false) (.s rfl rfl rfl) rfl) ?_
     refine yq 22 [.o 19,.o 21,.o 15] rfl rfl (by kernel_rfl) (fun He=>rq_no (v:=.bool false) (.s rfl rfl rfl) rfl) ?_
     refine yq 23 [.o 22,.o 15] rfl rfl (by kernel_rfl) (fun He=>rq_no (v:=.bool false) (.s rfl rfl rfl) rfl) ?_
     refine yp 24 [.o 15,.o 23] rfl rfl (by kernel_rfl) (pv_andf (.n rfl) rfl rfl fR) ?_
     refine qm_n (by kernel_rfl) (by kernel_rfl) (by kernel_rfl) (by kernel_rfl) (kp [3,4,52] rfl) ?_
     refine r_cond _ rfl (fun h5=>?_) (fun h5=>?_)
     ·simp at h5
     ·skip
      rw[if_neg (fun h=>by rw[hsn] at h;cases h.2.1)] at hat
      have hh:=hat
      refine r_skip (r_end ?_)
      refine r_fallc hF rfl ?_
      ·refine Ent.catI ?_;rw[hh];refine Ent.tr (dealP_close (q:=q) (d:=d) wv yv tv rfl rfl rfl rfl) ?_;refine Ent.tr (Ent.mono (SelX.ent (X:=restP dealP bs s.l i))) ?_;refine Ent.tr (many_back hq hd) ?_;refine Ent.tr (brokP_close (b:=b) (s:=s) dv ov bs (by simp[hbl]) rfl rfl rfl) ?_;apply eI;repeat constructor
    ·skip
     refine r_deal i hq hd ?_
     refine r_ex3 fun wv yv tv=>?_
     refine r_cat ?_
     refine r_rd wv fun hrw=>?_
     refine r_rd yv fun hry=>?_
     refine r_rd tv fun hrt=>?_
     refine r_plan _ [] mo (kp [3,4] rfl) Ent.rfl ?_
     refine yp 0 [.k 4] rfl rfl (by kernel_rfl) (u_mv rfl rfl rfl) (yp 1 [.o 0] rfl rfl (by kernel_rfl) (u_nil rfl rfl rfl) (yp 2 [.o 1] rfl rfl (by kernel_rfl) (u_fa fa_169_1 rfl rfl rfl) (yr 3 [.o 2] rfl rfl (by kernel_rfl) (fun He=>u_ldc tc_3 rfl rfl rfl (by rfl)) ?_)))
     refine yp 4 [.o 3] rfl rfl (by kernel_rfl) (pv_to (pv_neq (.n rfl) rfl rfl rfl fS) (show _=Value.bool true from bool_eq (by simp[h0]))) (yp 5 [.o 4] rfl rfl (by kernel_rfl) (u_mv rfl rfl rfl) (yp 6 [.k 4,.o 5] rfl rfl (by kernel_rfl) (pv_ung (.s rfl rfl rfl) rfl (u_mv rfl rfl rfl)) ?_))
     refine yp 7 [.o 6,.o 5] rfl rfl (by kernel_rfl) (pv_ung (.s rfl rfl rfl) rfl (u_nil rfl rfl rfl)) (yp 8 [.o 7,.o 5] rfl rfl (by kernel_rfl) (pv_ung (.s rfl rfl rfl) rfl (u_fa fa_169_0 rfl rfl rfl)) (yr 9 [.o 8,.o 5] rfl rfl (by kernel_rfl) (fun He=>rv_ung (.s rfl rfl rfl) rfl (u_ldc tc_89 rfl rfl rfl (by rfl))) ?_))
     refine yp 11 [.k 3,.o 5] rfl rfl (by kernel_rfl) (pv_ung (.s rfl rfl rfl) rfl (u_fa fa_139_2 rfl rfl rfl)) (yr 12 [.o 11,.o 5] rfl rfl (by kernel_rfl) (fun He=>rv_ung (.s rfl rfl rfl) rfl (u_ldc tc_3 rfl rfl rfl (by rfl))) ?_)
     refine qm_calln (i:=10) [.o 9,.o 5] (by kernel_rfl) (by kernel_rfl) rfl rfl rfl rfl (by kernel_rfl) (by kernel_rfl) ⟨_,.s rfl rfl rfl,rfl⟩ cf_111 rfl (.c rfl .n) (plan_ShopsN _ [sl wv 93 2 (d.wants.map rW)] wv d.wants hrw (by omega)) fun sv=>?_
     refine qm_cat ?_
     refine qm_rd sv fun hrs=>?_
     refine qm_keep ?_
     refine yq 13 [.o 10,.o 12,.o 5] rfl rfl (by kernel_rfl) (fun He=>rq_ung (.s rfl rfl rfl) rfl (rq_call cf_112 (.n rfl) rfl (.c rfl fR (.c rfl fR .n)) (fun hg=>fnv_to (int_Contains _ _ sv (shopsL d.wants) m.shop hrs.own (by have:=shopsN_le [d];have:(shopsL d.wants).length≤3:=List.length_filter_le _ _;omega)) (by rw[hsn])))) ?_
     refine yp 14 [.o 5,.o 13] rfl rfl (by kernel_rfl) (pv_and (.n rfl) rfl rfl rfl (fun _=>⟨rfl,fun hc=>by first|rfl|(rw[hc];rfl)|simp_all⟩)) ?_
     refine yp 15 [.o 14] rfl rfl (by kernel_rfl) (u_mv rfl rfl rfl) (yp 16 [.k 4,.o 15] rfl rfl (by kernel_rfl) (pv_ung (.s rfl rfl rfl) rfl (u_mv rfl rfl rfl)) (yp 17 [.o 16,.o 15] rfl rfl (by kernel_rfl) (pv_ung (.s rfl rfl rfl) rfl (u_nil rfl rfl rfl)) ?_))
     refine yp 18 [.o 17,.o 15] rfl rfl (by kernel_rfl) (pv_ung (.s rfl rfl rfl) rfl (u_fa fa_169_3 rfl rfl rfl)) (yr 19 [.o 18,.o 15] rfl rfl (by kernel_rfl) (fun He=>rv_ung (.s rfl rfl rfl) rfl (u_ldc tc_65 rfl rfl rfl (by rfl))) ?_)
     refine yp 20 [.k 3,.o 15] rfl rfl (by kernel_rfl) (pv_ung (.s rfl rfl rfl) rfl (u_fa fa_139_2 rfl rfl rfl)) (yr 21 [.o 20,.o 15] rfl rfl (by kernel_rfl) (fun He=>rv_ung (.s rfl rfl rfl) rfl (u_ldc tc_3 rfl rfl rfl (by rfl))) ?_)
     refine yq 22 [.o 19,.o 21,.o 15] rfl rfl (by kernel_rfl) (fun He=>rq_ung (.s rfl rfl rfl) rfl (rq_call cf_112 (.n rfl) rfl (.c rfl fR (.c rfl fR .n)) (fun hg=>int_Contains _ _ tv d.over m.shop (Rd.ent hrt (eJ (by repeat constructor))) (by omega)))) ?_
     refine yp 23 [.o 22,.o 15] rfl rfl (by kernel_rfl) (pv_ung (.s rfl rfl rfl) rfl (pv_not (.n rfl) rfl rfl fR)) ?_
     refine yp 24 [.o 15,.o 23] rfl rfl (by kernel_rfl) (pv_and (.n rfl) rfl rfl rfl (fun _=>⟨rfl,fun hc=>by first|rfl|(rw[hc];rfl)|simp_all⟩)) ?_
     refine qm_n (by kernel_rfl) (by kernel_rfl) (by kernel_rfl) (by kernel_rfl) (kp [3,4,52] rfl) ?_
     refine r_cond _ rfl (fun h6=>?_) (fun h6=>?_)
     ·skip
      have hov:d.over.contains m.shop=false:=by simpa using h6
      rw[if_pos ⟨h0,hsn,hov⟩] at hat
      have hh:=hat
      refine r_plan (_) ([sl tv 3 1 (d.over.map rI)]) mo (kp [3,4] rfl) (SelS.ent) ?_
      refine yp 0 [.k 4] rfl rfl (by kernel_rfl) (u_mv rfl rfl rfl) (yp 1 [.k 4] rfl rfl (by kernel_rfl) (u_mv rfl rfl rfl) (yp 2 [.o 1] rfl rfl (by kernel_rfl) (u_nil rfl rfl rfl) (yp 3 [.o 2] rfl rfl (by kernel_rfl) (u_fa fa_169_3 rfl rfl rfl) (yr 4 [.o 3] rfl rfl (by kernel_rfl) (fun He=>u_ldc tc_65 rfl rfl rfl (by rfl)) ?_))))
      refine yp 5 [.k 3] rfl rfl (by kernel_rfl) (u_fa fa_139_2 rfl rfl rfl) (yr 6 [.o 5] rfl rfl (by kernel_rfl) (fun He=>u_ldc tc_3 rfl rfl rfl (by rfl)) ?_)
      refine qm_bslice1 Tryz.underlying65 (.ofC tc_3) zr_3 rfl (i:=7) [.o 6] (by kernel_rfl) (by kernel_rfl) rfl rfl rfl rfl (by kernel_rfl) (by kernel_rfl) ⟨_,.n rfl,rfl⟩ rfl rfl rfl rfl rfl rfl fun b60=>?_
      refine qa_append Tryz.underlying65 el_3 rfl rfl (i:=8) [.o 4,.o 7] (by kernel_rfl) (by kernel_rfl) rfl rfl rfl rfl (by kernel_rfl) (by kernel_rfl) ⟨_,.n rfl,rfl⟩ rfl rfl rfl (Rd.blit rfl rfl) (by simp;omega) fun v61=>?_
      refine qm_rd v61 fun hr61=>?_
      refine yp 9 [.o 0] rfl rfl (by kernel_rfl) (u_nil rfl rfl rfl) (yp 10 [.o 9] rfl rfl (by kernel_rfl) (u_fa fa_169_3 rfl rfl rfl) ?_)
      refine qb_store (.ofC tc_65) (i:=11) [.o 10,.o 8] (by kernel_rfl) (by kernel_rfl) rfl rfl rfl (by kernel_rfl) (by kernel_rfl) (by kernel_rfl) ⟨_,.n rfl,rfl⟩ rfl rfl rfl hr61.c1 rfl hr61.o1 (by repeat constructor) ?_
      refine qm_n (by kernel_rfl) (by kernel_rfl) (by kernel_rfl) (by kernel_rfl) (.n) ?_
      refine r_end ?_
      refine r_fallc hF rfl ?_
      ·refine Ent.catI ?_;rw[hh];refine Ent.tr (dealP_close (q:=q) (d:={d with over:=d.over++[m.shop]}) wv yv v61 rfl rfl rfl (by simp[rI])) ?_;refine Ent.tr (Ent.mono (SelX.ent (X:=restP dealP bs s.l i))) ?_;refine Ent.tr (many_in hq hd) ?_;refine Ent.tr (brokP_close (b:=b) (s:=⟨s.l.set i {d with over:=d.over++[m.shop]},s.order⟩) dv ov bs (by simp[hbl]) rfl rfl rfl) ?_;apply eI;repeat constructor
     ·skip
      have hov:d.over.contains m.shop=true:=by simpa using h6
      rw[if_neg (fun h=>by rw[hov] at h;cases h.2.2)] at hat
      have hh:=hat
      refine r_skip (r_end ?_)
      refine r_fallc hF rfl ?_
      ·refine Ent.catI ?_;rw[hh];refine Ent.tr (dealP_close (q:=q) (d:=d) wv yv tv rfl rfl rfl rfl) ?_;refine Ent.tr (Ent.mono (SelX.ent (X:=restP dealP bs s.l i))) ?_;refine Ent.tr (many_back hq hd) ?_;refine Ent.tr (brokP_close (b:=b) (s:=s) dv ov bs (by simp[hbl]) rfl rfl rfl) ?_;apply eI;repeat constructor
   ·skip
    have hk4:¬ m.kind=4:=of_decide_eq_false h3
    rw[if_neg hk4] at hat
    have hh:=hat
    refine r_skip (r_end ?_)
    refine r_fallc hF rfl ?_
    ·refine Ent.catI ?_;rw[hh];refine Ent.c (brokP_close dv ov bs hbl rfl rfl rfl) ?_;apply eI;repeat constructor
theorem broker_Crash (M:Amb)(b:Nat)(s:BrokS)(hI:BInv s):FnC Tryz.prog M 102 [ptr b] (resVal []) [brokP b s] [brokP b (crashB s)]:=by
 have hor:=hI.ord_le
 have hB:=hI
 have hl8:=hI.len
 refine fnc_intro Tryz.func102 rfl Tryz.ntmps102 rfl fun R F hF=>?_
 refine r_cat ?_
 refine r_brok fun dv ov bs hbl=>?_
 refine r_cat ?_
 refine r_rd dv fun hrd=>?_
 refine r_rd ov fun hro=>?_
 refine r_sr (p_mv rfl rfl (p_nil rfl rfl (p_fa fa_119_0 rfl rfl (p_ldc tc_117 rfl (by rfl) rfl ?_))))
 refine l_op (x_p (pv_lens (Rd.len hrd) ⟨_,Tryz.underlying117⟩ (.n rfl) rfl rfl rfl rfl fR) rfl rfl (p_mv rfl rfl (o_keep (kp [0,7,8,9] rfl) (r_block ?_))))
 refine r_loop_2 (fun (i:Nat) (ov1:Value)=>[(9,true,.int .i64 (i:Int))]) (kp [0,7,8] rfl) (fun (i:Nat) (ov1:Value)=>blk b [dv,ov1] 119::sl dv 170 1 (bs.map rPt)::sl ov1 3 1 ((crashT s i).order.map rI)::manyP dealP bs (crashT s i).l::R) (fun (i:Nat) (ov1:Value)=>i≤s.l.length) (fun (i:Nat) (ov1:Value)=>s.l.length - i) (0) (ov) ?_ (kp [9] rfl) ?_ (fun i ov1 hI=>?_)
 ·exact Nat.zero_le _
 ·rw[crashT_0];apply eI;repeat constructor
 ·skip
  refine r_sr (p_lss rfl rfl rfl (o_keep (kp [0,7,8,9,10] rfl) (r_seq (r_cond _ rfl (fun h1=>?_) (fun h1=>?_)))))
  ·skip
   have hilt:i<s.l.length:=by have:=of_decide_eq_true h1;omega
   obtain⟨d,hd⟩:=getlt hilt
   obtain⟨q,hq⟩:=getlt (l:=bs) (i:=i) (by omega)
   refine r_skip (r_seq (r_block (r_sr (p_mv rfl rfl (p_idx Tryz.underlying117 (.ofC tc_170) hrd rfl (bptr hq) rfl rfl rfl (p_ldat 0 tc_170 (Rd.ent hrd (eJ (by repeat constructor))) (bptr hq) rfl rfl rfl rfl ?_))))))
   refine p_as rfl rfl (p_as rfl rfl (o_keep (kp [0,2,3,7,8,9] rfl) (r_sr (p_mv rfl rfl (p_mv rfl rfl ?_)))))
   refine p_calle cf_138 (.c rfl (.c rfl (.c rfl .n))) rfl (broker_decide_o _ b (crashT s i) dv ov1 bs (by rw[crashT_len];exact hbl) i d (crashT_at hd) 2 (by show s.order.length≤100000;omega)) fun ov2=>?_
   refine o_cat ?_
   refine o_keep (kp [0,3,7,8,9] rfl) ?_
   obtain⟨hnx,d2,hd2,e1,e2,e3,e4⟩:=crashT_next hd
   refine r_deal i hq hd2 ?_
   refine r_ex3 fun wv yv tv=>?_
   refine r_cat ?_
   refine r_rd wv fun hrw=>?_
   refine r_region (p_mv rfl rfl (p_mv rfl rfl (p_mv rfl rfl (p_nil rfl rfl (p_fa fa_169_0 rfl rfl (p_ldc tc_89 rfl (by rfl) rfl ?_))))))
   refine l_op (x_p (pv_lens (Rd.len hrw) ⟨_,Tryz.underlying89⟩ (.n rfl) rfl rfl rfl rfl fR) rfl rfl ?_)
   refine p_mks Tryz.underlying167 el_4 zr_4 rfl rfl rfl (by have hdl:=(hB.d d (List.mem_of_getElem? hd)).le;rw[e1];refine⟨?_,?_⟩<;>simp[maxLen]<;>omega) fun v24=>?_
   refine o_rd v24 fun hr24=>?_
   refine p_nil rfl rfl (p_fa fa_169_2 rfl rfl ?_)
   refine p_store (.ofC tc_167) rfl rfl hr24.c1 rfl hr24.o1 (by repeat constructor) ?_
   refine p_nil rfl rfl (p_fa fa_169_3 rfl rfl ?_)
   refine p_store (.ofC tc_65) rfl rfl rfl rfl rfl (by repeat constructor) ?_
   refine o_keep (kp [0,7,8,9] rfl) (r_end (r_region (p_add rfl rfl (by omega) rfl (p_mv rfl rfl (o_keep (kp [0,7,8,9] rfl) ?_)))))
   refine r_back_2 (i+1) (ov2) ?_ ?_ (Keep.app (kp [9] rfl) (kp [0,7,8] rfl)) ?_
   ·omega
   ·omega
   ·rw[← hnx];dsimp only;refine Ent.tr (Ent.slN (E:=3) (sz:=1)) ?_;refine Ent.tr (dealP_close (q:=q) (d:=⟨d.wants,if d.state=0 then 2 else d.state,noYes d.wants,[]⟩) wv v24 (.slice Option.none 0 0) (by rw[← e2]) (by rw[e1]) (by rw[e1];simp[noYes,rBo]) rfl) ?_;refine Ent.tr (Ent.mono (SelX.ent (X:=restP dealP bs (decideB (crashT s i) i 2).l i))) ?_;refine Ent.tr (many_in hq hd2) ?_;apply eI;repeat constructor
  ·skip
   have hilt:s.l.length≤i:=by have:=of_decide_eq_false h1;omega
   refine r_exit rfl ?_
   refine r_fallc hF rfl ?_
   ·refine Ent.catI ?_;rw[← crashT_all s hilt];refine Ent.c (brokP_close (s:=crashT s i) dv ov1 bs (by rw[crashT_len];exact hbl) rfl rfl rfl) ?_;apply eI;repeat constructor
theorem snocM{l:List Mail}{m:Mail}:(l++[m]).map rM=l.map rM++[rM m]:=by rw[List.map_append];rfl
theorem badd{bs:List Nat}{x:Nat}:bs.map rPt++[[.pointer (some ⟨x,0,Option.none⟩)]]=(bs++[x]).map rPt:=by rw[List.map_append];rfl
theorem broker_Begin (M:Amb)(b:Nat)(s:BrokS)(hI:BInv s)(R:List HP)(v:Value)(l:List Want)(hv:Rd M R v 2 (l.map rW))(hb:l.length≤100000):FnR Tryz.prog M (brokP b s::R) 96 [ptr b,v] (fun u H'=>u=.tuple #[.int .i64 (beginB s l).2.1,.int .i64 (beginB s l).2.2]∧H'=brokP b (beginB s l).1::R):=by
 have hl8:=hI.len
 refine fn_intro Tryz.func96 rfl Tryz.ntmps96 rfl fun F hF=>?_
 refine r_sr (p_as rfl rfl (p_as rfl rfl (o_keep (kp [0,1,4,5] rfl) (r_seq (r_sr (p_mv rfl rfl ?_))))))
 refine p_callv cf_133 (.c rfl .n) rfl (plan_Check _ _ v l (Rd.ent hv (by first|exact Ent.drop|exact Ent.dropR Ent.drop)) hb) ?_
 refine p_alloc zr_31 rfl fun b6=>?_
 refine p_store (.ofA ta_31) rfl rfl rfl (by first|rfl|exact rfl) (by first|rfl|exact rfl) (Ins.whole (by first|rfl|(simp only[List.length_map,List.length_cons,List.length_nil];omega)|(simp[*];done)|(simp[*];rfl))) ?_
 refine o_keep (.c 0 rfl (.c 1 rfl (.c 4 rfl (.c 5 rfl (.c 6 rfl .n))))) (r_sr (p_fa fa_31_0 rfl rfl (p_ldc tc_3 rfl (by rfl) rfl ?_)))
 refine p_neq rfl rfl rfl (o_keep (kp [0,1,4,5,6,11] rfl) (r_cond _ rfl (fun h1=>?_) (fun h1=>?_)))
 ·skip
  have hc:(checkL l).code≠0:=by simpa using h1
  have hs:beginB s l=(s,0,(checkL l).code):=by unfold beginB;rw[if_pos hc]
  refine r_seq ?_
  refine r_plan _ [] mo (kp [0,1,6] rfl) Ent.rfl ?_
  refine yp 0 [.k 6] rfl rfl (by kernel_rfl) (u_fa fa_31_0 rfl rfl rfl) (yr 1 [.o 0] rfl rfl (by kernel_rfl) (fun He=>u_ldc tc_3 rfl rfl rfl (by rfl)) ?_)
  refine yp 2 [] rfl rfl (by kernel_rfl) (u_as rfl rfl rfl) (yp 3 [.o 1] rfl rfl (by kernel_rfl) (u_as rfl rfl rfl) ?_)
  refine qm_n (by kernel_rfl) (by kernel_rfl) (by kernel_rfl) (by kernel_rfl) (kp [0,1,4,5] rfl) ?_
  refine r_retv hF rfl (.c (.t rfl) (.c (.t rfl) .n)) ?_ ?_
  ·rw[hs];refine Ent.c (SelX.ent) ?_;apply eI;repeat constructor
  ·rw[hs];rfl
 ·skip
  have hc:(checkL l).code=0:=by simpa using h1
  have hll:=((checkL_ok _).1 hc).2.1
  refine r_skip (r_seq (r_seq ?_))
  refine r_sel (brokP b s) ?_
  refine r_brok fun dv ov bs hbl=>?_
  refine r_cat ?_
  refine r_rd dv fun hrd=>?_
  refine r_rd ov fun hro=>?_
  refine r_region (p_mv rfl rfl (p_nil rfl rfl (p_fa fa_119_0 rfl rfl (p_ldc tc_117 rfl (by rfl) rfl ?_))))
  refine l_op (x_p (pv_lens (Rd.len hrd) ⟨_,Tryz.underlying117⟩ (.n rfl) rfl rfl rfl rfl fR) rfl rfl (p_geq rfl rfl rfl (o_keep (kp [0,1,4,5,19] rfl) (r_cond _ rfl (fun h2=>?_) (fun h2=>?_)))))
  ·skip
   have h8:8≤s.l.length:=by have:=of_decide_eq_true h2;omega
   have hs:beginB s l=(s,0,6):=by unfold beginB;rw[if_neg (by omega),if_pos h8]
   refine r_sr (p_as rfl rfl (p_as rfl rfl (o_keep (kp [0,1,4,5] rfl) ?_)))
   refine r_retv hF rfl (.c (.t rfl) (.c (.t rfl) .n)) ?_ ?_
   ·rw[hs];refine Ent.c (brokP_close dv ov bs hbl rfl rfl rfl) ?_;apply eI;repeat constructor
   ·rw[hs];rfl
  ·skip
   have h8:¬ 8≤s.l.length:=by have:=of_decide_eq_false h2;omega
   have hs:beginB s l=(⟨s.l++[⟨l,0,noYes l,[]⟩],s.order⟩,(s.l.length:Int),0):=by unfold beginB;rw[if_neg (by omega),if_neg h8]
   refine r_skip (r_seq ?_)
   refine r_plan (_) ([sl dv 170 1 (bs.map rPt)]) mo (kp [0,1,4,5] rfl) (SelS.ent) ?_
   refine yp 0 [.k 0] rfl rfl (by kernel_rfl) (u_mv rfl rfl rfl) (yp 1 [.k 0] rfl rfl (by kernel_rfl) (u_mv rfl rfl rfl) (yp 2 [.o 1] rfl rfl (by kernel_rfl) (u_nil rfl rfl rfl) (yp 3 [.o 2] rfl rfl (by kernel_rfl) (u_fa fa_119_0 rfl rfl rfl) (yr 4 [.o 3] rfl rfl (by kernel_rfl) (fun He=>u_ldc tc_117 rfl rfl rfl (by rfl)) ?_))))
   refine yp 5 [.k 1] rfl rfl (by kernel_rfl) (u_mv rfl rfl rfl) (yp 7 [.k 1] rfl rfl (by kernel_rfl) (u_mv rfl rfl rfl) (yp 8 [.o 7] rfl rfl (by kernel_rfl) (pv_lens hv.len ⟨_,Tryz.underlying89⟩ (.n rfl) rfl rfl rfl rfl fR) ?_))
   refine qm_cm (i:=6) (j:=9) (li:=[.o 5]) (lj:=[.o 8]) Tryz.underlying167 el_4 zr_4 rfl (by kernel_rfl) (by kernel_rfl) rfl rfl rfl rfl rfl rfl rfl rfl rfl rfl rfl (by kernel_rfl) (fun _=>by kernel_rfl) (fun _=>by kernel_rfl) rfl rfl cf_134 rfl rfl (.c rfl .n) (fun _=>(.c rfl .n)) rfl (fun _=>rfl) (by refine⟨?_,?_⟩<;>simp[maxLen]<;>omega) (fun He=>(want_Clone _ _ v (l.map rW) (Rd.skip (Rd.ent hv (by first|exact Ent.drop|(repeat (first|exact Ent.rfl|refine Ent.dropR ?_))))) (by simpa using hb)).all) fun z26 v29=>?_
   refine qm_rd v29 fun hr29=>?_
   refine qm_rd z26 fun hr26=>?_
   refine yp 10 [.o 6,.o 9] rfl rfl (by kernel_rfl) (pv_build zr_169 pl_169 (.n rfl) rfl (.c rfl fR rfl hr26.c1 rfl (by repeat constructor) (.c rfl fR rfl hr29.c1 rfl (by repeat constructor) .n))) ?_
   refine qm_box (i:=11) [.o 10] (by kernel_rfl) (by kernel_rfl) rfl rfl rfl rfl (by kernel_rfl) (by kernel_rfl) ⟨_,.n rfl,rfl⟩ rfl rfl rfl fun b31=>?_
   refine qm_bslice1 Tryz.underlying117 (.ofC tc_170) zr_170 rfl (i:=12) [.o 11] (by kernel_rfl) (by kernel_rfl) rfl rfl rfl rfl (by kernel_rfl) (by kernel_rfl) ⟨_,.n rfl,rfl⟩ rfl rfl rfl rfl rfl rfl fun b32=>?_
   refine qa_append Tryz.underlying117 el_170 rfl rfl (i:=13) [.o 4,.o 12] (by kernel_rfl) (by kernel_rfl) rfl rfl rfl rfl (by kernel_rfl) (by kernel_rfl) ⟨_,.n rfl,rfl⟩ rfl rfl rfl (Rd.blit rfl rfl) (by simp;omega) fun v33=>?_
   refine qm_rd v33 fun hr33=>?_
   refine yp 14 [.o 0] rfl rfl (by kernel_rfl) (u_nil rfl rfl rfl) (yp 15 [.o 14] rfl rfl (by kernel_rfl) (u_fa fa_119_0 rfl rfl rfl) ?_)
   refine qb_store (.ofC tc_117) (i:=16) [.o 15,.o 13] (by kernel_rfl) (by kernel_rfl) rfl rfl rfl (by kernel_rfl) (by kernel_rfl) (by kernel_rfl) ⟨_,.n rfl,rfl⟩ rfl rfl rfl hr33.c1 rfl hr33.o1 (by repeat constructor) ?_
   refine qm_n (by kernel_rfl) (by kernel_rfl) (by kernel_rfl) (by kernel_rfl) (kp [0,4,5] rfl) ?_
   refine r_seq ?_
   rw[badd]
   have hbs:(bs++[b31]).length=bs.length+1:=by simp
   refine r_rd v33 fun hrd2=>?_
   refine r_region (p_mv rfl rfl (p_nil rfl rfl (p_fa fa_119_0 rfl rfl (p_ldc tc_117 rfl (by rfl) rfl ?_))))
   refine l_op (x_p (pv_lens (Rd.len hrd2) ⟨_,Tryz.underlying117⟩ (.n rfl) rfl rfl rfl rfl fR) rfl rfl (p_sub rfl rfl (by omega) rfl (p_as rfl rfl (p_as rfl rfl (o_keep (kp [4,5] rfl) ?_)))))
   refine r_retv hF rfl (.c (.t rfl) (.c (.t rfl) .n)) ?_ ?_
   ·rw[hs];refine Ent.tr (Ent.slN (E:=3) (sz:=1)) ?_;refine Ent.tr (dealP_close (q:=b31) (d:=⟨l,0,noYes l,[]⟩) z26 v29 (.slice Option.none 0 0) rfl rfl (by simp[noYes,rBo]) rfl) ?_;refine Ent.tr (Ent.mono (SelX.ent (X:=manyP dealP bs s.l))) ?_;refine Ent.tr (many_add hbl) ?_;refine Ent.c (brokP_close (s:=⟨s.l++[⟨l,0,noYes l,[]⟩],s.order⟩) v33 ov (bs++[b31]) (by simp[hbl]) rfl rfl rfl) ?_;apply eI;repeat constructor
   ·rw[hs];simp[resVal,hbl]
theorem broker_Due (M:Amb)(b:Nat)(s:BrokS)(hI:BInv s):FnE (α:=Value) Tryz.prog M 67 [ptr b] [brokP b s] (fun x=>x) (fun x=>[sl x 139 6 ((dueB s).map rM),brokP b s]):=by
 have hB:=hI
 have hl8:=hI.len
 refine fne_intro Tryz.func67 rfl Tryz.ntmps67 rfl fun R F hF=>?_
 refine r_cat ?_
 refine r_brok fun dv ov bs hbl=>?_
 refine r_cat ?_
 refine r_rd dv fun hrd=>?_
 refine r_rd ov fun hro=>?_
 refine r_sr (p_as rfl rfl (o_keep (kp [0,2] rfl) (r_sr (p_as rfl rfl (o_keep (kp [0,2,3] rfl) (r_seq (r_sr ?_)))))))
 refine p_mv rfl rfl (p_nil rfl rfl (p_fa fa_119_0 rfl rfl (p_ldc tc_117 rfl (by rfl) rfl ?_)))
 refine l_op (x_p (pv_lens (Rd.len hrd) ⟨_,Tryz.underlying117⟩ (.n rfl) rfl rfl rfl rfl fR) rfl rfl (p_mv rfl rfl (o_keep (kp [2,3,13,14,15] rfl) (r_block ?_))))
 refine r_loop_2 (fun (i:Nat) (ov1:Value)=>[(15,true,.int .i64 (i:Int)),(3,true,ov1)]) (kp [2,13,14] rfl) (fun (i:Nat) (ov1:Value)=>sl ov1 139 6 ((dueL 0 (s.l.take i)).map rM)::blk b [dv,ov] 119::sl dv 170 1 (bs.map rPt)::sl ov 3 1 (s.order.map rI)::manyP dealP bs s.l::R) (fun (i:Nat) (ov1:Value)=>i≤s.l.length) (fun (i:Nat) (ov1:Value)=>s.l.length - i) (0) (.slice Option.none 0 0) ?_ (kp [15,3] rfl) ?_ (fun i ov1 hI=>?_)
 ·exact Nat.zero_le _
 ·show Ent _ (sl _ _ _ []::_);refine Ent.cN ?_;apply eI;repeat constructor
 ·skip
  refine r_sr (p_lss rfl rfl rfl (o_keep (kp [2,3,13,14,15,16] rfl) (r_seq (r_cond _ rfl (fun h1=>?_) (fun h1=>?_)))))
  ·skip
   have hilt:i<s.l.length:=by have:=of_decide_eq_true h1;omega
   obtain⟨d,hd⟩:=getlt hilt
   obtain⟨q,hq⟩:=getlt (l:=bs) (i:=i) (by omega)
   have hdk:=hB.d d (List.mem_of_getElem? hd)
   have hle:=hdk.le
   have hyl:=hdk.y
   have hdl:=dueL_le (l:=s.l.take i) (n:=0) fun x hx=>hB.d x (List.mem_of_mem_take hx)
   have htl:(s.l.take i).length≤8:=by simp;omega
   refine r_skip (r_seq (r_block (r_sr (p_mv rfl rfl (p_idx Tryz.underlying117 (.ofC tc_170) hrd rfl (bptr hq) rfl rfl rfl (p_ldat 0 tc_170 (Rd.ent hrd (eJ (by repeat constructor))) (bptr hq) rfl rfl rfl rfl ?_))))))
   refine p_as rfl rfl (p_as rfl rfl (o_keep (kp [2,3,4,5,13,14,15] rfl) (r_seq (r_seq ?_))))
   refine r_deal i hq hd ?_
   refine r_ex3 fun wv yv tv=>?_
   refine r_cat ?_
   refine r_rd wv fun hrw=>?_
   refine r_rd yv fun hry=>?_
   refine r_rd tv fun hrt=>?_
   refine r_region (p_mv rfl rfl (p_nil rfl rfl (p_fa fa_169_1 rfl rfl (p_ldc tc_3 rfl (by rfl) rfl ?_))))
   refine p_neq rfl rfl rfl (o_keep (kp [2,3,4,5,13,14,15,24] rfl) (r_cond _ rfl (fun h2=>?_) (fun h2=>?_)))
   ·skip
    have h0:d.state≠0:=by simpa using h2
    have hsl:(shopsL d.wants).length≤3:=List.length_filter_le _ _
    refine r_seq (r_sr (p_mv rfl rfl (p_nil rfl rfl (p_fa fa_169_0 rfl rfl (p_ldc tc_89 rfl (by rfl) rfl ?_)))))
    refine p_calle cf_111 (.c rfl .n) rfl (plan_Shops _ [sl wv 93 2 (d.wants.map rW)] wv d.wants hrw (by omega)) fun sv=>?_
    refine o_cat ?_
    refine o_rd sv fun hrs=>?_
    refine l_op (x_p (pv_lens (Rd.len hrs) ⟨_,Tryz.underlying65⟩ (.n rfl) rfl rfl rfl rfl fR) rfl rfl (p_mv rfl rfl (o_keep (kp [2,3,4,5,13,14,15,29,30,31] rfl) (r_block ?_))))
    refine r_loop_2 (fun (j:Nat) (ov2:Value)=>[(31,true,.int .i64 (j:Int)),(3,true,ov2)]) (kp [2,4,5,13,14,15,29,30] rfl) (fun (j:Nat) (ov2:Value)=>sl ov2 139 6 ((dueL 0 (s.l.take i)++dueS i d ((shopsL d.wants).take j)).map rM)::sl sv 3 1 ((shopsL d.wants).map rI)::blk q (dlC d wv yv tv) 169::sl wv 93 2 (d.wants.map rW)::sl yv 4 1 (d.yes.map rBo)::sl tv 3 1 (d.over.map rI)::restP dealP bs s.l i::blk b [dv,ov] 119::sl dv 170 1 (bs.map rPt)::sl ov 3 1 (s.order.map rI)::R) (fun (j:Nat) (ov2:Value)=>j≤(shopsL d.wants).length) (fun (j:Nat) (ov2:Value)=>(shopsL d.wants).length - j) (0) (ov1) ?_ (kp [31,3] rfl) ?_ (fun j ov2 hI=>?_)
    ·exact Nat.zero_le _
    ·rw[List.take_zero,show dueS (i:Int) d []=[] from rfl,List.append_nil];apply eI;repeat constructor
    ·skip
     refine r_sr (p_lss rfl rfl rfl (o_keep (kp [2,3,4,5,13,14,15,29,30,31,32] rfl) (r_seq (r_cond _ rfl (fun h3=>?_) (fun h3=>?_)))))
     ·skip
      obtain⟨z,hz⟩:=getlt (l:=shopsL d.wants) (i:=j) (by have:=of_decide_eq_true h3;omega)
      have hzl:=(List.getElem?_eq_some_iff.1 hz).1
      have hds:=dueS_len (n:=(i:Int)) (d:=d) ((shopsL d.wants).take j)
      have htk:((shopsL d.wants).take j).length≤3:=by simp;omega
      refine r_skip (r_seq (r_block (r_sr (p_idx Tryz.underlying65 (.ofC tc_3) hrs rfl (mapget hz) rfl rfl rfl (p_ldat 0 tc_3 (Rd.ent hrs (eJ (by repeat constructor))) (mapget hz) rfl rfl rfl rfl ?_)))))
      refine p_as rfl rfl (o_keep (kp [2,3,4,5,7,13,14,15,29,30,31] rfl) (r_sr (p_mv rfl rfl (p_nil rfl rfl (p_fa fa_169_3 rfl rfl (p_ldc tc_65 rfl (by rfl) rfl ?_))))))
      refine p_mv rfl rfl ?_
      refine p_callv cf_112 (.c rfl (.c rfl .n)) rfl (int_Contains _ _ tv d.over z (Rd.ent hrt (eJ (by repeat constructor))) (by omega)) ?_
      refine p_not rfl rfl (o_keep (kp [2,3,4,5,7,13,14,15,29,30,31,41] rfl) (r_cond _ rfl (fun h4=>?_) (fun h4=>?_)))
      ·skip
       have hc:d.over.contains z=false:=by simpa using h4
       refine r_region (p_mv rfl rfl (p_mv rfl rfl (p_mv rfl rfl (p_mv rfl rfl (p_nil rfl rfl (p_fa fa_169_1 rfl rfl (p_ldc tc_3 rfl (by rfl) rfl ?_)))))))
       refine p_eql rfl rfl rfl ?_
       refine p_build zr_139 pl_139 (.c rfl fR rfl rfl rfl (by repeat constructor) (.c rfl fR rfl rfl rfl (by repeat constructor) (.c rfl fR rfl rfl rfl (by repeat constructor) (.c rfl fR rfl rfl rfl (by repeat constructor) .n)))) rfl ?_
       refine p_bslice1 Tryz.underlying70 (.ofA ta_139) zr_139 rfl rfl rfl rfl rfl rfl rfl fun b51=>?_
       refine p_append Tryz.underlying70 el_139 rfl rfl rfl rfl rfl (Rd.blit rfl rfl) (by simp only[List.length_map,List.length_append,List.length_cons,List.length_nil];omega) fun v52=>?_
       refine o_rd v52 fun hr52=>?_
       refine p_as rfl rfl (o_keep (kp [2,3,4,5,13,14,15,29,30,31] rfl) (r_end (r_region (p_add rfl rfl (by omega) rfl (p_mv rfl rfl (o_keep (kp [2,3,4,5,13,14,15,29,30,31] rfl) ?_))))))
       refine r_back_2 (j+1) (_) ?_ ?_ (Keep.app (kp [31,3] rfl) (kp [2,4,5,13,14,15,29,30] rfl)) ?_
       ·omega
       ·omega
       ·rw[dueS_take hz,if_neg (by rw[hc];simp),← List.append_assoc,snocM];apply eI;repeat constructor
      ·skip
       have hc:d.over.contains z=true:=by simpa using h4
       refine r_skip (r_end (r_region (p_add rfl rfl (by omega) rfl (p_mv rfl rfl (o_keep (kp [2,3,4,5,13,14,15,29,30,31] rfl) ?_)))))
       refine r_back_2 (j+1) (ov2) ?_ ?_ (Keep.app (kp [31,3] rfl) (kp [2,4,5,13,14,15,29,30] rfl)) ?_
       ·omega
       ·omega
       ·rw[dueS_take hz,if_pos hc,List.append_nil];apply eI;repeat constructor
     ·skip
      have hj:(shopsL d.wants).length≤j:=by have:=of_decide_eq_false h3;omega
      refine r_exit rfl (r_exit rfl (r_region (p_add rfl rfl (by omega) rfl (p_mv rfl rfl (o_keep (kp [2,3,13,14,15] rfl) ?_)))))
      refine r_back_2 (i+1) (ov2) ?_ ?_ (Keep.app (kp [15,3] rfl) (kp [2,13,14] rfl)) ?_
      ·omega
      ·omega
      ·rw[dueL_take hd,Int.zero_add,dueD_end h0];rw[List.take_of_length_le hj];refine Ent.tr (dealP_close (q:=q) (d:=d) wv yv tv rfl rfl rfl rfl) ?_;refine Ent.tr (Ent.mono (SelX.ent (X:=restP dealP bs s.l i))) ?_;refine Ent.tr (many_back hq hd) ?_;apply eI;repeat constructor
   ·skip
    have h0:d.state=0:=by simpa using h2
    refine r_skip (r_sr (p_mv rfl rfl (p_nil rfl rfl (p_fa fa_169_0 rfl rfl (p_ldc tc_89 rfl (by rfl) rfl ?_)))))
    refine l_op (x_p (pv_lens (Rd.len hrw) ⟨_,Tryz.underlying89⟩ (.n rfl) rfl rfl rfl rfl fR) rfl rfl (p_mv rfl rfl (o_keep (kp [2,3,4,5,13,14,15,57,58,59] rfl) (r_block ?_))))
    refine r_loop_2 (fun (j:Nat) (ov2:Value)=>[(59,true,.int .i64 (j:Int)),(3,true,ov2)]) (kp [2,4,5,13,14,15,57,58] rfl) (fun (j:Nat) (ov2:Value)=>sl ov2 139 6 ((dueL 0 (s.l.take i)++dueW i (d.wants.take j) (d.yes.take j)).map rM)::blk q (dlC d wv yv tv) 169::sl wv 93 2 (d.wants.map rW)::sl yv 4 1 (d.yes.map rBo)::sl tv 3 1 (d.over.map rI)::restP dealP bs s.l i::blk b [dv,ov] 119::sl dv 170 1 (bs.map rPt)::sl ov 3 1 (s.order.map rI)::R) (fun (j:Nat) (ov2:Value)=>j≤d.wants.length) (fun (j:Nat) (ov2:Value)=>d.wants.length - j) (0) (ov1) ?_ (kp [59,3] rfl) ?_ (fun j ov2 hI=>?_)
    ·exact Nat.zero_le _
    ·rw[List.take_zero,show dueW (i:Int) [] (d.yes.take 0)=[] from rfl,List.append_nil];apply eI;repeat constructor
    ·skip
     refine r_sr (p_lss rfl rfl rfl (o_keep (kp [2,3,4,5,13,14,15,57,58,59,60] rfl) (r_seq (r_cond _ rfl (fun h5=>?_) (fun h5=>?_)))))
     ·skip
      obtain⟨w,hw⟩:=getlt (l:=d.wants) (i:=j) (by have:=of_decide_eq_true h5;omega)
      have hjl:=(List.getElem?_eq_some_iff.1 hw).1
      obtain⟨y,hy⟩:=getlt (l:=d.yes) (i:=j) (by omega)
      have hds:=dueW_len (n:=(i:Int)) (d.wants.take j) (d.yes.take j)
      have htk:(d.wants.take j).length≤4:=by simp;omega
      refine r_skip (r_seq (r_block (r_sr (p_mv rfl rfl (p_idx Tryz.underlying89 (.ofA ta_93) hrw rfl (mapget hw) rfl rfl rfl ?_)))))
      refine p_ldats 0 ta_93 (Rd.ent hrw (eJ (by repeat constructor))) (mapget hw) rfl rfl (.s (.s .z)) rfl ?_
      refine p_alloc zr_93 rfl fun b9=>?_
      refine p_as rfl rfl ?_
      refine p_store (.ofA ta_93) rfl rfl rfl rfl rfl (by repeat constructor) ?_
      refine o_keep (kp [2,3,4,5,8,9,13,14,15,57,58,59] rfl) (r_sr (p_mv rfl rfl (p_nil rfl rfl (p_fa fa_169_2 rfl rfl (p_ldc tc_167 rfl (by rfl) rfl ?_)))))
      refine p_mv rfl rfl (p_idx Tryz.underlying167 (.ofC tc_4) hry rfl (mapget hy) rfl rfl rfl (p_ldat 0 tc_4 (Rd.ent hry (eJ (by repeat constructor))) (mapget hy) rfl rfl rfl rfl ?_))
      refine p_not rfl rfl (o_keep (kp [2,3,4,5,9,13,14,15,57,58,59,71] rfl) (r_cond _ rfl (fun h6=>?_) (fun h6=>?_)))
      ·skip
       have hc:y=false:=by simpa using h6
       refine r_plan (_) ([sl ov2 139 6 ((dueL 0 (s.l.take i)++dueW i (d.wants.take j) (d.yes.take j)).map rM)]) mo (kp [2,3,4,5,9,13,14,15,57,58,59] rfl) (SelS.ent) ?_
       refine yp 0 [.k 3] rfl rfl (by kernel_rfl) (u_mv rfl rfl rfl) (yp 1 [.k 4] rfl rfl (by kernel_rfl) (u_mv rfl rfl rfl) (yp 2 [.k 9] rfl rfl (by kernel_rfl) (u_fa fa_93_0 rfl rfl rfl) (yr 3 [.o 2] rfl rfl (by kernel_rfl) (fun He=>u_ldc tc_3 rfl rfl rfl (by rfl)) ?_)))
       refine yq 4 [.o 3] rfl rfl (by kernel_rfl) (fun He=>rq_call cf_113 (.n rfl) rfl (.c rfl fR .n) (fun hg=>plan_Shop _ _ _)) ?_
       refine yr 5 [.k 9] rfl rfl (by kernel_rfl) (fun He=>q_lda ta_93 (.n rfl) rfl rfl fR (by exact (.s (.s .z)))) ?_
       refine yp 6 [.o 1,.o 4,.o 5] rfl rfl (by kernel_rfl) (pv_build zr_139 pl_139 (.n rfl) rfl (.c rfl fR rfl rfl rfl (by repeat constructor) (.c rfl fR rfl rfl rfl (by repeat constructor) (.c rfl fR rfl rfl rfl (by repeat constructor) (.c rfl fR rfl rfl rfl (by repeat constructor) .n))))) ?_
       refine qm_bslice1 Tryz.underlying70 (.ofA ta_139) zr_139 rfl (i:=7) [.o 6] (by kernel_rfl) (by kernel_rfl) rfl rfl rfl rfl (by kernel_rfl) (by kernel_rfl) ⟨_,.n rfl,rfl⟩ rfl rfl rfl rfl rfl rfl fun b79=>?_
       refine qa_append Tryz.underlying70 el_139 rfl rfl (i:=8) [.o 0,.o 7] (by kernel_rfl) (by kernel_rfl) rfl rfl rfl rfl (by kernel_rfl) (by kernel_rfl) ⟨_,.n rfl,rfl⟩ rfl rfl rfl (Rd.blit rfl rfl) (by simp only[List.length_map,List.length_append,List.length_cons,List.length_nil];omega) fun v80=>?_
       refine qm_rd v80 fun hr80=>?_
       refine yp 9 [.o 8] rfl rfl (by kernel_rfl) (u_as rfl rfl rfl) ?_
       refine qm_n (by kernel_rfl) (by kernel_rfl) (by kernel_rfl) (by kernel_rfl) (kp [2,3,4,5,13,14,15,57,58,59] rfl) ?_
       refine r_end (r_region (p_add rfl rfl (by omega) rfl (p_mv rfl rfl (o_keep (kp [2,3,4,5,13,14,15,57,58,59] rfl) ?_))))
       refine r_back_2 (j+1) (_) ?_ ?_ (Keep.app (kp [59,3] rfl) (kp [2,4,5,13,14,15,57,58] rfl)) ?_
       ·omega
       ·omega
       ·rw[dueW_take hw hy,if_neg (by rw[hc];simp),← List.append_assoc,snocM];apply eI;repeat constructor
      ·skip
       have hc:y=true:=by simpa using h6
       refine r_skip (r_end (r_region (p_add rfl rfl (by omega) rfl (p_mv rfl rfl (o_keep (kp [2,3,4,5,13,14,15,57,58,59] rfl) ?_)))))
       refine r_back_2 (j+1) (ov2) ?_ ?_ (Keep.app (kp [59,3] rfl) (kp [2,4,5,13,14,15,57,58] rfl)) ?_
       ·omega
       ·omega
       ·rw[dueW_take hw hy,if_pos hc,List.append_nil];apply eI;repeat constructor
     ·skip
      have hj:d.wants.length≤j:=by have:=of_decide_eq_false h5;omega
      refine r_exit rfl (r_end (r_region (p_add rfl rfl (by omega) rfl (p_mv rfl rfl (o_keep (kp [2,3,13,14,15] rfl) ?_)))))
      refine r_back_2 (i+1) (ov2) ?_ ?_ (Keep.app (kp [15,3] rfl) (kp [2,13,14] rfl)) ?_
      ·omega
      ·omega
      ·rw[dueL_take hd,Int.zero_add,dueD_ask h0];rw[List.take_of_length_le hj,List.take_of_length_le (show d.yes.length≤j by omega)];refine Ent.tr (dealP_close (q:=q) (d:=d) wv yv tv rfl rfl rfl rfl) ?_;refine Ent.tr (Ent.mono (SelX.ent (X:=restP dealP bs s.l i))) ?_;refine Ent.tr (many_back hq hd) ?_;apply eI;repeat constructor
  ·skip
   have hilt:s.l.length≤i:=by have:=of_decide_eq_false h1;omega
   refine r_exit rfl (r_sr (p_mv rfl rfl (p_as rfl rfl (o_keep (kp [2] rfl) ?_))))
   refine r_rete (ov1) hF rfl (.c (.t rfl) .n) ?_ ?_
   ·refine Ent.catI ?_;rw[show dueB s=dueL 0 (s.l.take i) by rw[List.take_of_length_le hilt];rfl];refine Ent.c (SelS.ent) ?_;refine Ent.c (brokP_close dv ov bs hbl rfl rfl rfl) ?_;apply eI;repeat constructor
   ·rfl
end Go.Proofs.YtmakdilmibjpbaaGreatDoor
