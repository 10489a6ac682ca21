/- The walks of MarkW: written by a program of ours (gen.py) over the engine. The walks of MarkW2: written by a program of ours (gen.py) over the engine. -/
import Derived.Test.YtmakdilmibjpbaaGreatDoorWants
import Derived.Test.YtmakdilmibjpbaaGreatDoorFacts
import Derived.Test.YtmakdilmibjpbaaGreatDoorMarkB
import Derived.Test.YtmakdilmibjpbaaGreatDoorPenA
import Derived.Test.YtmakdilmibjpbaaGreatDoorBookW3
import Derived.Test.YtmakdilmibjpbaaGreatDoorTownW
namespace Go.Proofs.YtmakdilmibjpbaaGreatDoor
open Go Go.RowKit
set_option linter.unusedVariables false
set_option linter.unusedSimpArgs false
set_option maxRecDepth 20000
def mkN (ws:List Int)(cs:List Nat):List Value:=[.slice Option.none 0 0,.slice Option.none 0 0,.int .i64 (ws.getD 0 0),.int .i64 (ws.getD 1 0),.int .i64 (ws.getD 2 0),.int .i64 (ws.getD 3 0),.int .i64 (ws.getD 4 0),.int .i64 (ws.getD 5 0)]++((cs.map ptr++List.replicate (3 - cs.length) (.pointer Option.none))++[.slice Option.none 0 0])
theorem mk_ins{c j:Nat}{ws:List Int}:∀ {cs:List Nat},cs.length<3→j=8+cs.length→Ins (mkN ws cs) j [ptr c] (mkN ws (cs++[c]))
  | [],_,e=>by subst e;exact (by repeat constructor)
  | [a],_,e=>by subst e;exact (by repeat constructor)
  | [a,a'],_,e=>by subst e;exact (by repeat constructor)
  | _::_::_::_,h,_=>by simp at h;omega
theorem mk_insN{j:Nat}{ws:List Int}:∀ {cs:List Nat},cs.length<3→j=8+cs.length→Ins (mkN ws cs) j [.pointer Option.none] (mkN ws cs)
  | [],_,e=>by subst e;exact (by repeat constructor)
  | [a],_,e=>by subst e;exact (by repeat constructor)
  | [a,a'],_,e=>by subst e;exact (by repeat constructor)
  | _::_::_::_,h,_=>by simp at h;omega
theorem mk_get{c s:Nat}{ws:List Int}:∀ {cs:List Nat},cs.length<3→s=cs.length→(mkN ws (cs++[c]))[8+s]?=some (ptr c)
  | [],_,e=>by subst e;rfl
  | [a],_,e=>by subst e;rfl
  | [a,a'],_,e=>by subst e;rfl
  | _::_::_::_,h,_=>by simp at h;omega
theorem mk_getN{s:Nat}{ws:List Int}:∀ {cs:List Nat},cs.length<3→s=cs.length→(mkN ws cs)[8+s]?=some (.pointer Option.none)
  | [],_,e=>by subst e;rfl
  | [a],_,e=>by subst e;rfl
  | [a,a'],_,e=>by subst e;rfl
  | _::_::_::_,h,_=>by simp at h;omega
def mNewP:Option TownS→Nat→List HP
  | some t,b=>[marketP b t]
  | none,_=>[]
theorem market_New (M:Amb)(ws:List Int)(h6:ws.length=6):FnE (α:=Nat) Tryz.prog M 12 [.agg (ws.map vI).toArray] [] (fun x=>tVal (newT ws) x) (fun x=>mNewP (newT ws) x):=by
 obtain⟨w0,w1,w2,w3,w4,w5,rfl⟩:=list6E h6
 refine fne_intro Tryz.func12 rfl Tryz.ntmps12 rfl fun R F hF=>?_
 show Run _ _ _ _ _ _ R
 refine r_sr (p_box rfl rfl rfl fun b1=>?_)
 refine p_as rfl rfl (o_keep (kp [1,2] rfl) (r_seq ?_))
 refine r_cut_1 (fun (b:Nat)=>[(3,true,ptr b)]) (kp [1,2] rfl) (fun (b:Nat)=>blk b (mkN [w0,w1,w2,w3,w4,w5] []) 73::manyP penP [] []::blk b1 ([w0,w1,w2,w3,w4,w5].map vI) 38::R) (fun (b:Nat)=>True) ?_ (fun b hI=>?_)
 ·skip
  refine r_region ?_
  refine p_lda ta_38 rfl (Tk.all rfl) rfl ?_
  refine p_build zr_73 pl_73 (.c rfl fR rfl rfl rfl (by repeat constructor) .n) rfl ?_
  refine p_box rfl rfl rfl fun b7=>?_
  refine p_as rfl rfl (o_keep (kp [1,2,3] rfl) ?_)
  refine r_join_1 (b7) ?_ (Keep.app (kp [3] rfl) (kp [1,2] rfl)) ?_
  ·trivial
  ·refine Ent.c (show Ent _ (blk b7 (mkN [w0,w1,w2,w3,w4,w5] []) 73::_) from SelB.ent) ?_;refine Ent.tr ?_ many_nil;apply eI;repeat constructor
 refine r_seq (r_sr (p_as rfl rfl (o_keep (kp [1,2,3,4] rfl) (r_block ?_))))
 refine r_loop_3 (fun (s:Nat) (cs:List Nat) (ks:List KeepS)=>[(4,true,.int .i64 (s:Int))]) (kp [1,2,3] rfl) (fun (s:Nat) (cs:List Nat) (ks:List KeepS)=>blk b (mkN [w0,w1,w2,w3,w4,w5] cs) 73::manyP penP cs ks::blk b1 ([w0,w1,w2,w3,w4,w5].map vI) 38::R) (fun (s:Nat) (cs:List Nat) (ks:List KeepS)=>s≤3∧cs.length=s∧ks.length=s∧∀ j:Nat,j<s→newK (j:Int) [w0,w1,w2,w3,w4,w5]=ks[j]?) (fun (s:Nat) (cs:List Nat) (ks:List KeepS)=>3 - s) (0) ([]) ([]) ?_ (kp [4] rfl) ?_ (fun s cs ks hI=>?_)
 ·exact⟨Nat.zero_le _,rfl,rfl,fun j hj=>by omega⟩
 ·apply eI;repeat constructor
 ·skip
  obtain⟨hs0,hcs,hks,hnk⟩:=hI
  refine r_seq (r_sr (p_mv rfl rfl (p_lss rfl rfl rfl (o_keep (kp [1,2,3,4,9] rfl) (r_cond _ rfl (fun h1=>?_) (fun h1=>?_))))))
  ·skip
   have hs3:s<3:=by have:=of_decide_eq_true h1;omega
   refine r_skip (r_seq (r_block (r_seq ?_)))
   rcases hn:newS (s:Int) [w0,w1,w2,w3,w4,w5] with _|s0
   ·skip
    refine r_plan _ [] mo (kp [1,2,3,4] rfl) Ent.rfl ?_
    refine yp 0 [.k 3] rfl rfl (by kernel_rfl) (u_mv rfl rfl rfl) (yp 1 [.k 4] rfl rfl (by kernel_rfl) (u_mv rfl rfl rfl) (yp 2 [.k 4] rfl rfl (by kernel_rfl) (u_mv rfl rfl rfl) (yr 3 [.k 1] rfl rfl (by kernel_rfl) (fun He=>q_lda ta_38 (.n rfl) rfl rfl fR (Tk.all rfl)) ?_)))
    refine yp 5 [.o 0] rfl rfl (by kernel_rfl) (u_nil rfl rfl rfl) (yp 6 [.o 5] rfl rfl (by kernel_rfl) (u_fa fa_73_2 rfl rfl rfl) ?_)
    refine qm_callc (i:=4) [.o 2,.o 3] (by kernel_rfl) (by kernel_rfl) rfl rfl rfl rfl (by kernel_rfl) (by kernel_rfl) ⟨_,.n rfl,rfl⟩ cf_22 rfl (.c rfl (.c rfl .n)) (pen_New_none _ s [w0,w1,w2,w3,w4,w5] rfl hn) ?_
    refine yp 7 [.o 6,.o 1] rfl rfl (by kernel_rfl) (pv_aidx (i:=s) Tryz.underlying69 (.ofC tc_68) (fun hg=>⟨rfl,hs3⟩) (.n rfl) rfl rfl rfl fS) ?_
    refine qb_store (.ofC tc_68) (i:=8) [.o 7,.o 4] (by kernel_rfl) (by kernel_rfl) rfl rfl rfl (by kernel_rfl) (by kernel_rfl) (by kernel_rfl) ⟨_,.n rfl,rfl⟩ rfl rfl rfl rfl rfl rfl (mk_insN (by omega) (by omega)) ?_
    refine qm_n (by kernel_rfl) (by kernel_rfl) (by kernel_rfl) (by kernel_rfl) (kp [1,2,3,4] rfl) ?_
    refine r_sr (p_mv rfl rfl (p_mv rfl rfl (p_nil rfl rfl (p_fa fa_73_2 rfl rfl (l_op (x_p (pv_aidx (i:=s) Tryz.underlying69 (.ofC tc_68) (fun hg=>⟨rfl,hs3⟩) (.n rfl) rfl rfl rfl fS) rfl rfl (l_op (x_r (q_ldci (i:=8+s) tc_68 (.n rfl) rfl rfl fR (by omega) (mk_getN (by omega) (by omega))) rfl rfl ?_))))))))
    refine l_op (x_p (pv_peqn Tryz.underlying68 (.n rfl) rfl rfl rfl fS) rfl rfl (o_keep (kp [1,2,3,4,26] rfl) (r_cond _ rfl (fun h2=>?_) (fun h2=>?_))))
    ·skip
     refine r_sr (p_as rfl rfl (o_keep (kp [1,2,3,4] rfl) ?_))
     refine r_rete (0) hF rfl (.c (.t rfl) .n) ?_ ?_
     ·show Ent _ (mNewP _ _++R);rw[newT_none hs3 hn];show Ent _ R;apply eI;repeat constructor
     ·rw[newT_none hs3 hn];rfl
    ·simp at h2
   ·skip
    refine r_plan _ [] mo (kp [1,2,3,4] rfl) Ent.rfl ?_
    refine yp 0 [.k 3] rfl rfl (by kernel_rfl) (u_mv rfl rfl rfl) (yp 1 [.k 4] rfl rfl (by kernel_rfl) (u_mv rfl rfl rfl) (yp 2 [.k 4] rfl rfl (by kernel_rfl) (u_mv rfl rfl rfl) (yr 3 [.k 1] rfl rfl (by kernel_rfl) (fun He=>q_lda ta_38 (.n rfl) rfl rfl fR (Tk.all rfl)) ?_)))
    refine yp 5 [.o 0] rfl rfl (by kernel_rfl) (u_nil rfl rfl rfl) (yp 6 [.o 5] rfl rfl (by kernel_rfl) (u_fa fa_73_2 rfl rfl rfl) ?_)
    refine qm_calle (i:=4) [.o 2,.o 3] (by kernel_rfl) (by kernel_rfl) rfl rfl rfl rfl (by kernel_rfl) (by kernel_rfl) ⟨_,.n rfl,rfl⟩ cf_22 rfl (.c rfl (.c rfl .n)) (pen_New_some _ s [w0,w1,w2,w3,w4,w5] rfl hn) fun cb=>?_
    refine qm_cat ?_
    refine yp 7 [.o 6,.o 1] rfl rfl (by kernel_rfl) (pv_aidx (i:=s) Tryz.underlying69 (.ofC tc_68) (fun hg=>⟨rfl,hs3⟩) (.n rfl) rfl rfl rfl fS) ?_
    refine qb_store (.ofC tc_68) (i:=8) [.o 7,.o 4] (by kernel_rfl) (by kernel_rfl) rfl rfl rfl (by kernel_rfl) (by kernel_rfl) (by kernel_rfl) ⟨_,.n rfl,rfl⟩ rfl rfl rfl rfl rfl rfl (mk_ins (by omega) (by omega)) ?_
    refine qm_n (by kernel_rfl) (by kernel_rfl) (by kernel_rfl) (by kernel_rfl) (kp [1,2,3,4] rfl) ?_
    refine r_sr (p_mv rfl rfl (p_mv rfl rfl (p_nil rfl rfl (p_fa fa_73_2 rfl rfl (l_op (x_p (pv_aidx (i:=s) Tryz.underlying69 (.ofC tc_68) (fun hg=>⟨rfl,hs3⟩) (.n rfl) rfl rfl rfl fS) rfl rfl (l_op (x_r (q_ldci (i:=8+s) tc_68 (.n rfl) rfl rfl fR (by omega) (mk_get (by omega) (by omega))) rfl rfl ?_))))))))
    refine l_op (x_p (pv_peqn Tryz.underlying68 (.n rfl) rfl rfl rfl fS) rfl rfl (o_keep (kp [1,2,3,4,26] rfl) (r_cond _ rfl (fun h3=>?_) (fun h3=>?_))))
    ·simp at h3
    ·skip
     refine r_skip (r_end (r_region (p_mv rfl rfl (p_add rfl rfl (by omega) rfl (p_as rfl rfl (o_keep (kp [1,2,3,4] rfl) ?_))))))
     refine r_back_3 (s+1) (cs++[cb]) (ks++[⟨s,[w0,w1,w2,w3,w4,w5],s0,[]⟩]) ?_ ?_ (Keep.app (kp [4] rfl) (kp [1,2,3] rfl)) ?_
     ·exact⟨by omega,by simp;omega,by simp;omega,newK_next hks hnk (by unfold newK;rw[hn];rfl)⟩
     ·omega
     ·refine Ent.c (SelB.ent) ?_;refine Ent.tr ?_ (many_add (hcs.trans hks.symm));apply eI;repeat constructor
  ·skip
   have hs3:s=3:=by have:=of_decide_eq_false h1;omega
   obtain⟨c0,c1,c2,rfl⟩:=len_three (hcs.trans hs3)
   have hT:=newT_some (ws:=[w0,w1,w2,w3,w4,w5]) (hks.trans hs3) (by rw[← hs3];exact hnk)
   refine r_exit rfl (r_sr (p_mv rfl rfl (p_as rfl rfl (o_keep (kp [2] rfl) ?_))))
   refine r_rete (b) hF rfl (.c (.t rfl) .n) ?_ ?_
   ·show Ent _ (mNewP _ _++R);rw[hT];show Ent _ (marketP b ⟨brk0,[w0,w1,w2,w3,w4,w5],ks,[]⟩::R);refine Ent.tr ?_ (marketP_in (t:=⟨brk0,[w0,w1,w2,w3,w4,w5],ks,[]⟩) (.slice Option.none 0 0) (.slice Option.none 0 0) [] c0 c1 c2 (.slice Option.none 0 0) rfl);show Ent _ (blk b (mkN [w0,w1,w2,w3,w4,w5] [c0,c1,c2]) 73::sl (.slice Option.none 0 0) 148 4 []::sl (.slice Option.none 0 0) 3 1 []::manyP bdealP [] ([]:List Deal)::manyP penP [c0,c1,c2] ks::sl (.slice Option.none 0 0) 139 6 []::R);refine Ent.c (SelB.ent) ?_;refine Ent.cN ?_;refine Ent.cN ?_;refine Ent.tr ?_ many_nil;refine Ent.c (SelX.ent) ?_;refine Ent.cN ?_;apply eI;repeat constructor
   ·rw[hT];rfl
theorem market_New_some (M:Amb)(ws:List Int)(h6:ws.length=6){t:TownS}(h:newT ws=some t):FnE (α:=Nat) Tryz.prog M 12 [.agg (ws.map vI).toArray] [] (fun x=>ptr x) (fun x=>[marketP x t]):=fun R w ho=>
  (market_New M ws h6 R w ho).mono fun _ _ ⟨v,H',e,⟨x,h1,h2⟩,ho'⟩=>⟨v,H',e,⟨x,by rw[h1,h];rfl,by rw[h2,h];rfl⟩,ho'⟩
end Go.Proofs.YtmakdilmibjpbaaGreatDoor
namespace Go.Proofs.YtmakdilmibjpbaaGreatDoor
open Go Go.RowKit
set_option linter.unusedVariables false
set_option linter.unusedSimpArgs false
set_option maxRecDepth 20000
theorem FnC.exE{α β:Type}{P:Program}{M:Amb}{f:FuncId}{vs:List Value}{ret:Value}{L:α→List HP}{L':β→List HP}(h:∀ x,FnE P M f vs (L x) (fun _=>ret) L'):FnC P M f vs ret [exS L] [exS L']:=fun R w ho=>by
  obtain⟨x,hx⟩:=(show Own M (exS L::R) w from ho).exS
  exact (h x R w hx).mono fun _ _ ⟨v,H',e,⟨y,h1,h2⟩,ho'⟩=>⟨v,_,e,⟨h1,rfl⟩,(h2▸ho').ent (Ent.ex y)⟩
theorem mbox_Send (M:Amb)(b:Nat)(ws:List Int)(lv ov:Value)(p0 p1 p2:Nat)(l:List Mail)(hb:l.length≤100000)(m:Mail):FnC Tryz.prog M 116 [.pointer (some ⟨b,11,Option.none⟩),vM m] (.bool (decide (l.length<40))) [mboxP b ws lv ov p0 p1 p2 l] [mboxP b ws lv ov p0 p1 p2 (sendL l m)]:=
  FnC.exE fun bv=>mbag_Send M b 73 lv ov _ _ _ _ _ _ _ _ _ bv l hb m
theorem mbox_Take (M:Amb)(b:Nat)(ws:List Int)(lv ov:Value)(p0 p1 p2:Nat)(l:List Mail)(hb:l.length≤100000)(n:Int):FnC Tryz.prog M 72 [.pointer (some ⟨b,11,Option.none⟩),.int .i64 n] (.tuple #[vM ((takeM l n).getD .z),.bool (takeM l n).isSome]) [mboxP b ws lv ov p0 p1 p2 l] [mboxP b ws lv ov p0 p1 p2 (takeL l n)]:=
  FnC.exE fun bv=>mbag_Take M b 73 lv ov _ _ _ _ _ _ _ _ _ bv l hb n
theorem mbox_Double (M:Amb)(b:Nat)(ws:List Int)(lv ov:Value)(p0 p1 p2:Nat)(l:List Mail)(hb:l.length≤100000)(n:Int):FnC Tryz.prog M 73 [.pointer (some ⟨b,11,Option.none⟩),.int .i64 n] (.bool (dblOk l)) [mboxP b ws lv ov p0 p1 p2 l] [mboxP b ws lv ov p0 p1 p2 (dblL l n)]:=
  FnC.exE fun bv=>mbag_Double M b 73 lv ov _ _ _ _ _ _ _ _ _ bv l hb n
theorem mbox_Take_n (M:Amb)(b:Nat)(ws:List Int)(lv ov:Value)(p0 p1 p2:Nat)(l:List Mail)(hb:l.length≤100000)(n:Int)(h:takeM l n=none):FnC Tryz.prog M 72 [.pointer (some ⟨b,11,Option.none⟩),.int .i64 n] (.tuple #[vM Mail.z,.bool false]) [mboxP b ws lv ov p0 p1 p2 l] [mboxP b ws lv ov p0 p1 p2 l]:=by
  have:=mbox_Take M b ws lv ov p0 p1 p2 l hb n
  rwa [h,takeM_none h] at this
theorem mbox_Take_s (M:Amb)(b:Nat)(ws:List Int)(lv ov:Value)(p0 p1 p2:Nat)(l:List Mail)(hb:l.length≤100000)(n:Int)(m:Mail)(h:takeM l n=some m):FnC Tryz.prog M 72 [.pointer (some ⟨b,11,Option.none⟩),.int .i64 n] (.tuple #[vM m,.bool true]) [mboxP b ws lv ov p0 p1 p2 l] [mboxP b ws lv ov p0 p1 p2 (takeL l n)]:=by
  have:=mbox_Take M b ws lv ov p0 p1 p2 l hb n
  rwa [h] at this
theorem ref_Replayed_some (M:Amb)(A:List HP)(no:Int)(ws:List Int)(hws:ws.length=6)(v:Value)(l:List Rec)(hv:Rd M A v 5 (l.map rR))(hb:l.length≤100000){s:ShopS}(h:replayS no ws l=(some s,⟨0,0⟩)):FnN (α:=Nat) Tryz.prog M 75 [.int .i64 no,.agg (ws.map vI).toArray,v] A (fun x=>.tuple #[ptr x,.agg (rF ⟨0,0⟩).toArray]) (fun x=>[boothP x s]):=fun R w ho=>
  (ref_Replayed M A no ws hws v l hv hb R w ho).mono fun _ _ ⟨v,H',e,⟨x,h1,h2⟩,ho'⟩=>⟨v,H',e,⟨x,by rw[h1,h];rfl,by rw[h2,h];rfl⟩,ho'⟩
theorem ord_deal{s:BrokS}(h:BInv s){i:Nat}{n:Int}(hn:s.order[i]?=some n):∃ (j:Nat) (d:Deal),n=(j:Int)∧s.l[j]?=some d∧wantsB s n=d.wants:=by
  have h1:=(h.ord n).1 (List.mem_of_getElem? hn)
  rcases h.st n with q|q
  · omega
  · obtain⟨d,hd,-⟩:=stateB_in q.1 q.2.1
    exact⟨n.toNat,d,by omega,hd,by have:=wantsB_at hd;rwa [show ((n.toNat:Nat):Int)=n by omega] at this⟩
theorem market_tick (M:Amb)(b:Nat)(t:TownS)(hI:TInv t):FnC Tryz.prog M 70 [ptr b] (resVal []) [marketP b t] [marketP b (tickT t)]:=by
 have hfull:=hI.full
 have hlen3:=hI.len
 have hw6:=hI.ws6
 have hdl:=hI.b.due_len
 refine fnc_intro Tryz.func70 rfl Tryz.ntmps70 rfl fun R F hF=>?_
 refine r_cat ?_
 refine r_market fun lv ov ts p0 p1 p2 bv hts=>?_
 refine r_cat ?_
 refine r_sr (p_mv rfl rfl (p_nil rfl rfl (p_fa fa_73_0 rfl rfl ?_)))
 refine p_calle cf_43 (.c rfl .n) rfl (book_Due_o _ 73 (mkR t.ws p0 p1 p2 bv) b t.b hI.b lv ov ts hts) fun dv=>?_
 refine o_cat ?_
 refine o_rd dv fun hrd=>?_
 refine p_as rfl rfl (o_keep (kp [0,2] rfl) ?_)
 refine r_ent (mbox_close (b:=b) (l:=t.post) bv rfl rfl) ?_
 refine r_sr (p_as rfl rfl (o_keep (kp [0,2,3] rfl) (r_block ?_)))
 refine r_loop_2 (fun (i:Nat) (ps:List Mail)=>[(3,true,.int .i64 (i:Int))]) (kp [0,2] rfl) (fun (i:Nat) (ps:List Mail)=>sl dv 139 6 ((dueB t.b).map rM)::mboxP b t.ws lv ov p0 p1 p2 ps::sl lv 148 4 (List.zipWith rowD ts t.b.l)::sl ov 3 1 (t.b.order.map rI)::manyP bdealP ts t.b.l::manyP penP [p0,p1,p2] t.ks::R) (fun (i:Nat) (ps:List Mail)=>i≤(dueB t.b).length∧(dueB t.b).foldl sendL t.post=((dueB t.b).drop i).foldl sendL ps∧ps.length≤40) (fun (i:Nat) (ps:List Mail)=>(dueB t.b).length - i) (0) (t.post) ?_ (kp [3] rfl) ?_ (fun i ps hI=>?_)
 ·exact⟨Nat.zero_le _,rfl,hfull⟩
 ·apply eI;repeat constructor
 ·skip
  obtain⟨hi,hF2,hps⟩:=hI
  refine r_seq (r_sr (p_mv rfl rfl (p_mv rfl rfl (l_op (x_p (pv_lens (Rd.len hrd) ⟨_,Tryz.underlying70⟩ (.n rfl) rfl rfl rfl rfl fR) rfl rfl (p_lss rfl rfl rfl (o_keep (kp [0,2,3,11] rfl) (r_cond _ rfl (fun h1=>?_) (fun h1=>?_)))))))))
  ·skip
   obtain⟨m,hm⟩:=getlt (l:=dueB t.b) (i:=i) (by have:=of_decide_eq_true h1;omega)
   have hil:=(List.getElem?_eq_some_iff.1 hm).1
   rw[drop_at hm,List.foldl_cons] at hF2
   refine r_skip (r_seq (r_block ?_))
   refine r_plan (_) ([mboxP b t.ws lv ov p0 p1 p2 ps]) mo (kp [0,2,3] rfl) (SelX.ent) ?_
   refine yp 0 [.k 0] rfl rfl (by kernel_rfl) (u_mv rfl rfl rfl) (yp 1 [.o 0] rfl rfl (by kernel_rfl) (u_nil rfl rfl rfl) (yp 2 [.o 1] rfl rfl (by kernel_rfl) (u_fa fa_73_3 rfl rfl rfl) (yp 3 [.k 2] rfl rfl (by kernel_rfl) (u_mv rfl rfl rfl) (yp 4 [.k 3] rfl rfl (by kernel_rfl) (u_mv rfl rfl rfl) ?_))))
   refine yp 5 [.o 3,.o 4] rfl rfl (by kernel_rfl) (pv_idx Tryz.underlying70 (.ofA ta_139) hrd (fun hg=>⟨rfl,(mapget hm)⟩) (.n rfl) rfl rfl rfl fS) ?_
   refine yr 6 [.o 5] rfl rfl (by kernel_rfl) (fun He=>rv_ldats (j:=0) ta_139 (Rd.ent hrd (eJ (by repeat constructor))) (fun hg=>(mapget hm)) (.n rfl) rfl rfl fR rfl (.s (.s (.s (.s (.s (.s .z))))))) ?_
   refine qb_callc (i:=7) [.o 2,.o 6] (by kernel_rfl) (by kernel_rfl) rfl rfl rfl rfl (by kernel_rfl) (by kernel_rfl) (by kernel_rfl) ⟨_,.n rfl,rfl⟩ cf_116 rfl (.c rfl (.c rfl .n)) (mbox_Send _ b t.ws lv ov p0 p1 p2 ps (by omega) m) ?_
   refine qm_n (by kernel_rfl) (by kernel_rfl) (by kernel_rfl) (by kernel_rfl) (kp [0,2,3] rfl) ?_
   refine r_end (r_region (p_mv rfl rfl (p_add rfl rfl (by omega) rfl (p_as rfl rfl (o_keep (kp [0,2,3] rfl) ?_)))))
   refine r_back_2 (i+1) (sendL ps m) ?_ ?_ (Keep.app (kp [3] rfl) (kp [0,2] rfl)) ?_
   ·exact⟨by omega,hF2,sendL_le hps⟩
   ·omega
   ·apply eI;repeat constructor
  ·skip
   have hj:(dueB t.b).length≤i:=by have:=of_decide_eq_false h1;omega
   rw[List.drop_eq_nil_of_le hj] at hF2
   have hT:tickT t={t with post:=ps}:=by unfold tickT;rw[hF2];rfl
   refine r_exit rfl ?_
   refine r_fallc hF rfl ?_
   ·refine Ent.catI ?_;rw[hT];refine Ent.c (marketP_xclose (t:={t with post:=ps}) lv ov ts p0 p1 p2 hts rfl rfl) ?_;apply eI;repeat constructor
theorem market_deliver (M:Amb)(b:Nat)(t:TownS)(hI:TInv t)(n:Int):FnC Tryz.prog M 71 [ptr b,.int .i64 n] (.int .i64 (deliverT t n).2) [marketP b t] [marketP b (deliverT t n).1]:=by
 have hfull:=hI.full
 have hlen3:=hI.len
 have hw6:=hI.ws6
 refine fnc_intro Tryz.func71 rfl Tryz.ntmps71 rfl fun R F hF=>?_
 refine r_cat ?_
 refine r_marketX fun lv ov ts p0 p1 p2 hts=>?_
 refine r_sr (p_as rfl rfl (o_keep (kp [0,1,4] rfl) (r_seq ?_)))
 rcases hm:takeM t.post n with _|m
 ·skip
  have hs:=deliverT_n hm
  refine r_region (p_mv rfl rfl (p_nil rfl rfl (p_fa fa_73_3 rfl rfl (p_mv rfl rfl ?_))))
  refine p_callc cf_72 (.c rfl (.c rfl .n)) rfl (mbox_Take_n _ b t.ws lv ov p0 p1 p2 t.post (by omega) n hm) ?_
  refine p_mv rfl rfl (p_ext rfl rfl rfl (p_ext rfl rfl rfl (p_alloc zr_139 rfl fun b5=>?_)))
  refine p_store (.ofA ta_139) rfl rfl rfl rfl rfl (Ins.whole rfl) ?_
  refine p_as rfl rfl (o_keep (kp [0,4,5,6] rfl) (r_seq (r_sr (p_mv rfl rfl (p_not rfl rfl (o_keep (kp [0,4,5,18] rfl) (r_cond _ rfl (fun h1=>?_) (fun h1=>?_))))))))
  ·skip
   refine r_sr (p_as rfl rfl (o_keep (kp [0,4,5] rfl) ?_))
   refine r_retv hF rfl (.c (.t rfl) .n) ?_ ?_
   ·refine Ent.catI ?_;rw[hs];refine Ent.c (marketP_xclose (t:=t) lv ov ts p0 p1 p2 hts rfl rfl) ?_;apply eI;repeat constructor
   ·rw[hs];rfl
  ·simp at h1
 ·skip
  have htl:=takeL_le (n:=n) hfull
  refine r_region (p_mv rfl rfl (p_nil rfl rfl (p_fa fa_73_3 rfl rfl (p_mv rfl rfl ?_))))
  refine p_callc cf_72 (.c rfl (.c rfl .n)) rfl (mbox_Take_s _ b t.ws lv ov p0 p1 p2 t.post (by omega) n m hm) ?_
  refine p_mv rfl rfl (p_ext rfl rfl rfl (p_ext rfl rfl rfl (p_alloc zr_139 rfl fun b5=>?_)))
  refine p_store (.ofA ta_139) rfl rfl rfl (by first|rfl|exact rfl) (by first|rfl|exact rfl) (Ins.whole (by first|rfl|(simp only[List.length_map,List.length_cons,List.length_nil];omega)|(simp[*];done)|(simp[*];rfl))) ?_
  refine p_as rfl rfl (o_keep (.c 0 rfl (.c 4 rfl (.c 5 rfl (.c 6 rfl .n)))) (r_seq (r_sr (p_mv rfl rfl (p_not rfl rfl (o_keep (.c 0 rfl (.c 4 rfl (.c 5 rfl (.c 18 rfl .n)))) (r_cond _ rfl (fun h2=>?_) (fun h2=>?_))))))))
  ·simp at h2
  ·skip
   refine r_skip (r_seq (r_sr (p_fa fa_139_0 rfl rfl (p_ldc tc_3 rfl (by rfl) rfl ?_))))
   refine p_eql rfl rfl rfl (p_mv rfl rfl (l_op (x_p (pv_fa fa_139_0 (.s rfl rfl rfl) rfl rfl gA) rfl rfl (l_op (x_r (q_ldc tc_3 (.s rfl rfl rfl) rfl rfl gA (by rfl)) rfl rfl ?_)))))
   refine l_op (x_p (pv_eql (.s rfl rfl rfl) rfl rfl rfl gB) rfl rfl ?_)
   refine l_op (x_p (pv_or (.n rfl) rfl rfl rfl (fun _=>⟨rfl,fun hc=>by first|rfl|(rw[hc];rfl)|simp_all⟩)) rfl rfl ?_)
   refine o_keep (kp [0,4,5,26] rfl) (r_cond _ rfl (fun h3=>?_) (fun h3=>?_))
   ·skip
    have hk:m.kind=2∨m.kind=4:=by simpa using h3
    have hs:=deliverT_b hm hk
    refine r_seq ?_
    refine r_sel (mboxP b t.ws lv ov p0 p1 p2 (takeL t.post n)) ?_
    refine r_ex fun bv=>?_
    refine r_cat ?_
    refine r_ent (bookP_close (b:=b) (s:=t.b) (rest:=mkR t.ws p0 p1 p2 bv) lv ov ts hts rfl rfl rfl) ?_
    refine r_plan (_) ([bookP b 73 (mkR t.ws p0 p1 p2 bv) t.b]) mo (kp [0,4,5] rfl) (SelX.ent) ?_
    refine yp 0 [.k 0] rfl rfl (by kernel_rfl) (u_mv rfl rfl rfl) (yp 1 [.o 0] rfl rfl (by kernel_rfl) (u_nil rfl rfl rfl) (yp 2 [.o 1] rfl rfl (by kernel_rfl) (u_fa fa_73_0 rfl rfl rfl) (yr 3 [.k 5] rfl rfl (by kernel_rfl) (fun He=>q_lda ta_139 (.n rfl) rfl rfl fR (Tk.all rfl)) ?_)))
    refine qb_callc (i:=4) [.o 2,.o 3] (by kernel_rfl) (by kernel_rfl) rfl rfl rfl rfl (by kernel_rfl) (by kernel_rfl) (by kernel_rfl) ⟨_,.n rfl,rfl⟩ cf_117 rfl (.c rfl (.c rfl .n)) (book_Hear _ 73 (mkR t.ws p0 p1 p2 bv) b t.b hI.b m) ?_
    refine qm_n (by kernel_rfl) (by kernel_rfl) (by kernel_rfl) (by kernel_rfl) (kp [0,4,5] rfl) ?_
    refine r_sr (p_as rfl rfl (o_keep (kp [0,4,5] rfl) ?_))
    refine r_retv hF rfl (.c (.t rfl) .n) ?_ ?_
    ·refine Ent.catI ?_;rw[hs];refine Ent.c (marketP_bclose (t:={t with post:=takeL t.post n,b:=hearB t.b m}) p0 p1 p2 bv rfl) ?_;apply eI;repeat constructor
    ·rw[hs];rfl
   ·skip
    have hk:¬ (m.kind=2∨m.kind=4):=by simpa using h3
    refine r_skip (r_seq (r_sr (p_fa fa_139_2 rfl rfl (p_ldc tc_3 rfl (by rfl) rfl ?_))))
    refine p_geq rfl rfl rfl (p_mv rfl rfl (l_op (x_p (pv_fa fa_139_2 (.s rfl rfl rfl) rfl rfl gA) rfl rfl (l_op (x_r (q_ldc tc_3 (.s rfl rfl rfl) rfl rfl gA (by rfl)) rfl rfl ?_)))))
    refine l_op (x_p (pv_lss (.s rfl rfl rfl) rfl rfl rfl gB) rfl rfl ?_)
    refine l_op (x_p (pv_and (.n rfl) rfl rfl rfl (fun _=>⟨rfl,fun hc=>by first|rfl|(rw[hc];rfl)|simp_all⟩)) rfl rfl ?_)
    refine o_keep (kp [0,4,5,39] rfl) (r_cond _ rfl (fun h4=>?_) (fun h4=>?_))
    ·skip
     have hsr:0≤m.shop∧m.shop<3:=by simp at h4;omega
     obtain⟨i,hsi⟩:∃ i:Nat,m.shop=(i:Int):=⟨m.shop.toNat,by omega⟩
     have hi3:i<3:=by omega
     obtain⟨k,hk3⟩:=getlt (l:=t.ks) (i:=i) (by omega)
     obtain⟨hK,hkn,hkw⟩:=hI.k i k hk3
     have hs:=deliverT_c hm hk hsi hk3
     refine r_seq ?_
     refine r_sel (mboxP b t.ws lv ov p0 p1 p2 (takeL t.post n)) ?_
     refine r_ex fun bv=>?_
     refine r_cat ?_
     refine r_many (P:=penP) (bs:=[p0,p1,p2]) i (cAt_get hi3) hk3 ?_
     refine r_plan (_) ([penP (cAt p0 p1 p2 i) k]) mo (kp [0,4,5] rfl) (SelX.ent) ?_
     refine yp 0 [.k 0] rfl rfl (by kernel_rfl) (u_mv rfl rfl rfl) (yp 1 [.k 5] rfl rfl (by kernel_rfl) (u_fa fa_139_2 rfl rfl rfl) (yr 2 [.o 1] rfl rfl (by kernel_rfl) (fun He=>u_ldc tc_3 rfl rfl rfl (by rfl)) ?_))
     refine yp 3 [.o 0] rfl rfl (by kernel_rfl) (u_nil rfl rfl rfl) (yp 4 [.o 3] rfl rfl (by kernel_rfl) (u_fa fa_73_2 rfl rfl rfl) (yp 5 [.o 4,.o 2] rfl rfl (by kernel_rfl) (pv_aidx (i:=i) Tryz.underlying69 (.ofC tc_68) (fun hg=>⟨hsi,hi3⟩) (.n rfl) rfl rfl rfl fS) ?_))
     refine yr 6 [.o 5] rfl rfl (by kernel_rfl) (fun He=>q_ldci (i:=8+i) tc_68 (.n rfl) rfl rfl fR (by omega) (mk_cell hi3)) ?_
     refine yr 7 [.k 5] rfl rfl (by kernel_rfl) (fun He=>q_lda ta_139 (.n rfl) rfl rfl fR (Tk.all rfl)) ?_
     refine qm_two (i:=8) (j:=12) (by kernel_rfl) (by kernel_rfl) (by kernel_rfl) ?_ ?_
     ·skip
      refine cand_callc [.o 6,.o 7] rfl rfl rfl rfl rfl rfl cf_118 rfl (.c rfl (.c rfl .n)) (pen_Answer _ (cAt p0 p1 p2 i) k hK m) ?_
      refine yp 9 [.o 8] rfl rfl (by kernel_rfl) (u_mv rfl rfl rfl) (yp 10 [.o 9] rfl rfl (by kernel_rfl) (u_ext rfl rfl rfl rfl) (yp 11 [.o 9] rfl rfl (by kernel_rfl) (u_ext rfl rfl rfl rfl) ?_))
      refine qm_alloc zr_139 (i:=12) [] (by kernel_rfl) (by kernel_rfl) rfl rfl rfl rfl (by kernel_rfl) (by kernel_rfl) ⟨_,.n rfl,rfl⟩ rfl fun b7=>?_
      refine qm_store (.ofA ta_139) (i:=13) [.o 12,.o 10] (by kernel_rfl) (by kernel_rfl) rfl rfl rfl (by kernel_rfl) (by kernel_rfl) ⟨_,.n rfl,rfl⟩ rfl rfl rfl rfl (by first|rfl|exact rfl) (by first|rfl|exact rfl) (Ins.whole (by first|rfl|(simp only[List.length_map,List.length_cons,List.length_nil];omega)|(simp[*];done)|(simp[*];rfl))) ?_
      refine qp 14 [.o 11] rfl rfl rfl rfl (by kernel_rfl) rfl (u_as rfl rfl rfl) ?_
      refine qm_n (by kernel_rfl) (by kernel_rfl) (by kernel_rfl) (by kernel_rfl) (kp [0,4,7,8] rfl) ?_
      refine r_sr (p_mv rfl rfl (o_keep (kp [0,4,7,52] rfl) (r_cond _ rfl (fun h5=>?_) (fun h5=>?_))))
      ·skip
       obtain⟨a,ha⟩:=Option.isSome_iff_exists.1 h5
       rw[ha] at hs
       rw[ha]
       refine r_ent (mbox_close (b:=b) (l:=takeL t.post n) bv rfl rfl) ?_
       refine r_plan (_) ([mboxP b t.ws lv ov p0 p1 p2 (takeL t.post n)]) mo (kp [0,4,7] rfl) (SelX.ent) ?_
       refine yp 0 [.k 0] rfl rfl (by kernel_rfl) (u_mv rfl rfl rfl) (yp 1 [.o 0] rfl rfl (by kernel_rfl) (u_nil rfl rfl rfl) (yp 2 [.o 1] rfl rfl (by kernel_rfl) (u_fa fa_73_3 rfl rfl rfl) (yr 3 [.k 7] rfl rfl (by kernel_rfl) (fun He=>q_lda ta_139 (.n rfl) rfl rfl fR (Tk.all rfl)) ?_)))
       refine qb_callc (i:=4) [.o 2,.o 3] (by kernel_rfl) (by kernel_rfl) rfl rfl rfl rfl (by kernel_rfl) (by kernel_rfl) (by kernel_rfl) ⟨_,.n rfl,rfl⟩ cf_116 rfl (.c rfl (.c rfl .n)) (mbox_Send _ b t.ws lv ov p0 p1 p2 (takeL t.post n) (by omega) a) ?_
       refine qm_n (by kernel_rfl) (by kernel_rfl) (by kernel_rfl) (by kernel_rfl) (kp [4] rfl) ?_
       refine r_sr (p_as rfl rfl (o_keep (kp [4] rfl) ?_))
       refine r_retv hF rfl (.c (.t rfl) .n) ?_ ?_
       ·refine Ent.catI ?_;rw[hs];refine Ent.tr (SelX.ent (X:=penP (cAt p0 p1 p2 i) (ansK k m).1)) ?_;refine Ent.tr (Ent.mono (SelX.ent (X:=restP penP [p0,p1,p2] t.ks i))) ?_;refine Ent.tr (many_in (cAt_get hi3) hk3) ?_;refine Ent.c (marketP_xclose (t:={t with ks:=t.ks.set i (ansK k m).1,post:=sendL (takeL t.post n) a}) lv ov ts p0 p1 p2 hts rfl rfl) ?_;apply eI;repeat constructor
       ·rw[hs];rfl
      ·skip
       have ha:(ansK k m).2=none:=by simpa using h5
       rw[ha] at hs
       refine r_skip (r_sr (p_as rfl rfl (o_keep (kp [4] rfl) ?_)))
       refine r_retv hF rfl (.c (.t rfl) .n) ?_ ?_
       ·refine Ent.catI ?_;rw[hs];refine Ent.tr (SelX.ent (X:=penP (cAt p0 p1 p2 i) (ansK k m).1)) ?_;refine Ent.tr (Ent.mono (SelX.ent (X:=restP penP [p0,p1,p2] t.ks i))) ?_;refine Ent.tr (many_in (cAt_get hi3) hk3) ?_;refine Ent.tr (mbox_close (b:=b) (l:=takeL t.post n) bv rfl rfl) ?_;refine Ent.c (marketP_xclose (t:={t with ks:=t.ks.set i (ansK k m).1,post:=takeL t.post n}) lv ov ts p0 p1 p2 hts rfl rfl) ?_;apply eI;repeat constructor
       ·rw[hs];rfl
     ·skip
      refine cand_alloc zr_139 rfl rfl rfl rfl rfl rfl fun b7=>?_
      refine qm_callc (i:=8) [.o 6,.o 7] (by kernel_rfl) (by kernel_rfl) rfl rfl rfl rfl (by kernel_rfl) (by kernel_rfl) ⟨_,.n rfl,rfl⟩ cf_118 rfl (.c rfl (.c rfl .n)) (pen_Answer _ (cAt p0 p1 p2 i) k hK m) ?_
      refine yp 9 [.o 8] rfl rfl (by kernel_rfl) (u_mv rfl rfl rfl) (yp 10 [.o 9] rfl rfl (by kernel_rfl) (u_ext rfl rfl rfl rfl) (yp 11 [.o 9] rfl rfl (by kernel_rfl) (u_ext rfl rfl rfl rfl) ?_))
      refine qm_store (.ofA ta_139) (i:=13) [.o 12,.o 10] (by kernel_rfl) (by kernel_rfl) rfl rfl rfl (by kernel_rfl) (by kernel_rfl) ⟨_,.n rfl,rfl⟩ rfl rfl rfl rfl (by first|rfl|exact rfl) (by first|rfl|exact rfl) (Ins.whole (by first|rfl|(simp only[List.length_map,List.length_cons,List.length_nil];omega)|(simp[*];done)|(simp[*];rfl))) ?_
      refine qp 14 [.o 11] rfl rfl rfl rfl (by kernel_rfl) rfl (u_as rfl rfl rfl) ?_
      refine qm_n (by kernel_rfl) (by kernel_rfl) (by kernel_rfl) (by kernel_rfl) (kp [0,4,7,8] rfl) ?_
      refine r_sr (p_mv rfl rfl (o_keep (kp [0,4,7,52] rfl) (r_cond _ rfl (fun h6=>?_) (fun h6=>?_))))
      ·skip
       obtain⟨a,ha⟩:=Option.isSome_iff_exists.1 h6
       rw[ha] at hs
       rw[ha]
       refine r_ent (mbox_close (b:=b) (l:=takeL t.post n) bv rfl rfl) ?_
       refine r_plan (_) ([mboxP b t.ws lv ov p0 p1 p2 (takeL t.post n)]) mo (kp [0,4,7] rfl) (SelX.ent) ?_
       refine yp 0 [.k 0] rfl rfl (by kernel_rfl) (u_mv rfl rfl rfl) (yp 1 [.o 0] rfl rfl (by kernel_rfl) (u_nil rfl rfl rfl) (yp 2 [.o 1] rfl rfl (by kernel_rfl) (u_fa fa_73_3 rfl rfl rfl) (yr 3 [.k 7] rfl rfl (by kernel_rfl) (fun He=>q_lda ta_139 (.n rfl) rfl rfl fR (Tk.all rfl)) ?_)))
       refine qb_callc (i:=4) [.o 2,.o 3] (by kernel_rfl) (by kernel_rfl) rfl rfl rfl rfl (by kernel_rfl) (by kernel_rfl) (by kernel_rfl) ⟨_,.n rfl,rfl⟩ cf_116 rfl (.c rfl (.c rfl .n)) (mbox_Send _ b t.ws lv ov p0 p1 p2 (takeL t.post n) (by omega) a) ?_
       refine qm_n (by kernel_rfl) (by kernel_rfl) (by kernel_rfl) (by kernel_rfl) (kp [4] rfl) ?_
       refine r_sr (p_as rfl rfl (o_keep (kp [4] rfl) ?_))
       refine r_retv hF rfl (.c (.t rfl) .n) ?_ ?_
       ·refine Ent.catI ?_;rw[hs];refine Ent.tr (SelX.ent (X:=penP (cAt p0 p1 p2 i) (ansK k m).1)) ?_;refine Ent.tr (Ent.mono (SelX.ent (X:=restP penP [p0,p1,p2] t.ks i))) ?_;refine Ent.tr (many_in (cAt_get hi3) hk3) ?_;refine Ent.c (marketP_xclose (t:={t with ks:=t.ks.set i (ansK k m).1,post:=sendL (takeL t.post n) a}) lv ov ts p0 p1 p2 hts rfl rfl) ?_;apply eI;repeat constructor
       ·rw[hs];rfl
      ·skip
       have ha:(ansK k m).2=none:=by simpa using h6
       rw[ha] at hs
       refine r_skip (r_sr (p_as rfl rfl (o_keep (kp [4] rfl) ?_)))
       refine r_retv hF rfl (.c (.t rfl) .n) ?_ ?_
       ·refine Ent.catI ?_;rw[hs];refine Ent.tr (SelX.ent (X:=penP (cAt p0 p1 p2 i) (ansK k m).1)) ?_;refine Ent.tr (Ent.mono (SelX.ent (X:=restP penP [p0,p1,p2] t.ks i))) ?_;refine Ent.tr (many_in (cAt_get hi3) hk3) ?_;refine Ent.tr (mbox_close (b:=b) (l:=takeL t.post n) bv rfl rfl) ?_;refine Ent.c (marketP_xclose (t:={t with ks:=t.ks.set i (ansK k m).1,post:=takeL t.post n}) lv ov ts p0 p1 p2 hts rfl rfl) ?_;apply eI;repeat constructor
       ·rw[hs];rfl
    ·skip
     have hsr:¬ (0≤m.shop∧m.shop<3):=by simp at h4;omega
     have hs:=deliverT_o hlen3 hm hk (by omega)
     refine r_skip (r_sr (p_as rfl rfl (o_keep (kp [4] rfl) ?_)))
     refine r_retv hF rfl (.c (.t rfl) .n) ?_ ?_
     ·refine Ent.catI ?_;rw[hs];refine Ent.c (marketP_xclose (t:={t with post:=takeL t.post n}) lv ov ts p0 p1 p2 hts rfl rfl) ?_;apply eI;repeat constructor
     ·rw[hs];rfl
theorem market_Calm (M:Amb)(b:Nat)(t:TownS)(hT:TInv t):FnC Tryz.prog M 37 [ptr b] (.int .i64 (calmT t).2) [marketP b t] [marketP b (calmT t).1]:=by
 refine fnc_intro Tryz.func37 rfl Tryz.ntmps37 rfl fun R F hF=>?_
 refine r_cat ?_
 refine r_sr (p_as rfl rfl (o_keep (kp [0,2] rfl) (r_seq (r_sr (p_as rfl rfl (o_keep (kp [0,2,3] rfl) (r_block ?_)))))))
 refine r_loop_2 (fun (n:Nat) (t1:TownS)=>[(3,true,.int .i64 (n:Int))]) (kp [0,2] rfl) (fun (n:Nat) (t1:TownS)=>marketP b t1::R) (fun (n:Nat) (t1:TownS)=>n≤20∧TInv t1∧calmT t=calmN (20 - n) (n:Int) t1) (fun (n:Nat) (t1:TownS)=>20 - n) (0) (t) ?_ (kp [3] rfl) ?_ (fun n t1 hI=>?_)
 ·exact⟨Nat.zero_le _,hT,rfl⟩
 ·apply eI;repeat constructor
 ·skip
  obtain⟨hn,hT1,hC⟩:=hI
  refine r_seq (r_sr (p_mv rfl rfl (p_lss rfl rfl rfl (o_keep (kp [0,2,3,5] rfl) (r_cond _ rfl (fun h1=>?_) (fun h1=>?_))))))
  ·skip
   have hn20:n<20:=by have:=of_decide_eq_true h1;omega
   refine r_skip (r_seq (r_block (r_seq (r_block ?_))))
   refine r_loop_1 (fun (t2:TownS)=>[]) (kp [0,2,3] rfl) (fun (t2:TownS)=>marketP b t2::R) (fun (t2:TownS)=>TInv t2∧drainT t2=drainT t1) (fun (t2:TownS)=>wgtL t2.post) (t1) ?_ (.n) ?_ (fun t2 hI=>?_)
   ·exact⟨hT1,rfl⟩
   ·apply eI;repeat constructor
   ·skip
    obtain⟨hT2,hD⟩:=hI
    refine r_seq (r_seq ?_)
    refine r_sel (marketP b t2) ?_
    refine r_market fun lv ov ts p0 p1 p2 bv hts=>?_
    refine r_cat ?_
    refine r_rd bv fun hrb=>?_
    refine r_region (p_mv rfl rfl (p_nil rfl rfl (p_fa fa_73_3 rfl rfl (p_ldc tc_71 rfl (by rfl) rfl ?_))))
    refine l_op (x_p (pv_lens (Rd.len hrb) ⟨_,Tryz.underlying71⟩ (.n rfl) rfl rfl rfl rfl fR) rfl rfl (p_gtr rfl rfl rfl (o_keep (kp [0,2,3,13] rfl) (r_cond _ rfl (fun h2=>?_) (fun h2=>?_)))))
    ·skip
     have h0:0<t2.post.length:=by have:=of_decide_eq_true h2;omega
     refine r_skip (r_block ?_)
     refine r_ent (marketP_close (b:=b) (t:=t2) lv ov ts p0 p1 p2 bv hts rfl rfl rfl rfl) ?_
     refine r_region (p_mv rfl rfl ?_)
     refine p_callc cf_71 (.c rfl (.c rfl .n)) rfl (market_deliver _ b t2 hT2 0) ?_
     refine o_keep (kp [0,2,3] rfl) (r_end ?_)
     refine r_back_1 ((deliverT t2 0).1) ?_ ?_ (Keep.app (.n) (kp [0,2,3] rfl)) ?_
     ·exact⟨hT2.deliver 0,by rw[← hD];exact (drainT_step h0).symm⟩
     ·(obtain⟨m,hm⟩:=takeM_some' (l:=t2.post) 0 h0;exact deliver_wgt hm)
     ·apply eI;repeat constructor
    ·skip
     have h0:¬ 0<t2.post.length:=by have:=of_decide_eq_false h2;omega
     have hDe:drainT t1=t2:=by rw[← hD];exact drainT_end h0
     have hC2:=hC
     rw[show 20 - n=(19 - n)+1 by omega] at hC2
     unfold calmN at hC2
     rw[hDe] at hC2
     refine r_exit rfl (r_seq (r_sr (p_mv rfl rfl (p_nil rfl rfl (p_fa fa_73_0 rfl rfl ?_)))))
     refine p_calle cf_43 (.c rfl .n) rfl (book_Due_o _ 73 (mkR t2.ws p0 p1 p2 bv) b t2.b hT2.b lv ov ts hts) fun dv=>?_
     refine o_cat ?_
     refine o_rd dv fun hrd=>?_
     refine l_op (x_p (pv_lens (Rd.len hrd) ⟨_,Tryz.underlying70⟩ (.n rfl) rfl rfl rfl rfl fR) rfl rfl (p_eql rfl rfl rfl (o_keep (kp [0,2,3,21] rfl) (r_cond _ rfl (fun h3=>?_) (fun h3=>?_)))))
     ·skip
      have hd0:(dueB t2.b).length=0:=by have:=of_decide_eq_true h3;omega
      rw[if_pos hd0] at hC2
      have hs:=hC2
      refine r_sr (p_mv rfl rfl (p_as rfl rfl (o_keep (kp [0,2,3] rfl) ?_)))
      refine r_retv hF rfl (.c (.t rfl) .n) ?_ ?_
      ·refine Ent.catI ?_;rw[hs];refine Ent.c (marketP_close (t:=t2) lv ov ts p0 p1 p2 bv hts rfl rfl rfl rfl) ?_;apply eI;repeat constructor
      ·rw[hs];rfl
     ·skip
      have hd0:¬ (dueB t2.b).length=0:=by have:=of_decide_eq_false h3;omega
      rw[if_neg hd0] at hC2
      refine r_skip ?_
      refine r_ent (marketP_close (b:=b) (t:=t2) lv ov ts p0 p1 p2 bv hts rfl rfl rfl rfl) ?_
      refine r_region (p_mv rfl rfl ?_)
      refine p_callc cf_70 (.c rfl .n) rfl (market_tick _ b t2 hT2) ?_
      refine o_keep (kp [0,2,3] rfl) (r_end (r_region (p_mv rfl rfl (p_add rfl rfl (by omega) rfl (p_as rfl rfl (o_keep (kp [0,2,3] rfl) ?_))))))
      refine r_back_2 (n+1) (tickT t2) ?_ ?_ (Keep.app (kp [3] rfl) (kp [0,2] rfl)) ?_
      ·exact⟨by omega,hT2.tick,by rw[hC2,show 20 - (n+1)=19 - n by omega];rfl⟩
      ·omega
      ·apply eI;repeat constructor
  ·skip
   have hn20:n=20:=by have:=of_decide_eq_false h1;omega
   subst hn20
   have hs:calmT t=(t1,20):=hC
   refine r_exit rfl (r_sr (p_as rfl rfl (o_keep (kp [2] rfl) ?_)))
   refine r_retv hF rfl (.c (.t rfl) .n) ?_ ?_
   ·refine Ent.catI ?_;rw[hs];refine Ent.c (SelX.ent) ?_;apply eI;repeat constructor
   ·rw[hs];rfl
theorem bo_cell{s:ShopS}{hv ov dv:Value}{q:Nat}(h:q<2):(boC s hv ov dv)[1+q]?=some (.int .i64 (if q=0 then s.c0 else s.c1).v):=by
  rcases (show q=0∨q=1 by omega) with rfl|rfl<;>rfl
theorem market_World_o (M:Amb)(b:Nat)(t:TownS)(lv ov:Value)(ts:List DT)(p0 p1 p2:Nat)(bv:Value)(hts:ts.length=t.b.l.length)(hT:TInv t):FnC Tryz.prog M 38 [ptr b] (.agg ((worldT t).map vI).toArray) [blk b (lv::ov::mkR t.ws p0 p1 p2 bv) 73,sl lv 148 4 (List.zipWith rowD ts t.b.l),sl ov 3 1 (t.b.order.map rI),manyP bdealP ts t.b.l,manyP penP [p0,p1,p2] t.ks,sl bv 139 6 (t.post.map rM)] [blk b (lv::ov::mkR t.ws p0 p1 p2 bv) 73,sl lv 148 4 (List.zipWith rowD ts t.b.l),sl ov 3 1 (t.b.order.map rI),manyP bdealP ts t.b.l,manyP penP [p0,p1,p2] t.ks,sl bv 139 6 (t.post.map rM)]:=by
 have hlen3:=hT.len
 have hWl:=worldT_len hlen3
 refine fnc_intro Tryz.func38 rfl Tryz.ntmps38 rfl fun R F hF=>?_
 refine r_cat ?_
 refine r_sr (p_alloc zr_38 rfl fun b2=>?_)
 refine o_keep (kp [0,2] rfl) (r_sr (p_alloc zr_38 rfl fun b3=>?_))
 refine o_keep (kp [0,2,3] rfl) (r_seq (r_sr (p_as rfl rfl (o_keep (kp [0,2,3,4] rfl) (r_block ?_)))))
 refine r_loop_2 (fun (s:Nat) (vs:List Int)=>[(4,true,.int .i64 (s:Int))]) (kp [0,2,3] rfl) (fun (s:Nat) (vs:List Int)=>blk b3 (vs.map vI) 38::blk b2 [.int .i64 0,.int .i64 0,.int .i64 0,.int .i64 0,.int .i64 0,.int .i64 0] 38::blk b (lv::ov::mkR t.ws p0 p1 p2 bv) 73::sl lv 148 4 (List.zipWith rowD ts t.b.l)::sl ov 3 1 (t.b.order.map rI)::manyP bdealP ts t.b.l::manyP penP [p0,p1,p2] t.ks::sl bv 139 6 (t.post.map rM)::R) (fun (s:Nat) (vs:List Int)=>s≤3∧vs.length=6∧∀ j:Nat,j<2*s→vs.getD j 0=(worldT t).getD j 0) (fun (s:Nat) (vs:List Int)=>3 - s) (0) ([0,0,0,0,0,0]) ?_ (kp [4] rfl) ?_ (fun s vs hI=>?_)
 ·exact⟨Nat.zero_le _,rfl,fun j hj=>by omega⟩
 ·apply eI;repeat constructor
 ·skip
  obtain⟨hs0,hvl,hv⟩:=hI
  refine r_seq (r_sr (p_mv rfl rfl (p_lss rfl rfl rfl (o_keep (kp [0,2,3,4,7] rfl) (r_cond _ rfl (fun h1=>?_) (fun h1=>?_))))))
  ·skip
   have hs3:s<3:=by have:=of_decide_eq_true h1;omega
   obtain⟨k,hk3⟩:=getlt (l:=t.ks) (i:=s) (by omega)
   obtain⟨hw1,hw2⟩:=worldT_get hlen3 hk3
   refine r_skip (r_seq (r_block (r_sr (p_as rfl rfl (o_keep (kp [0,2,3,4,5] rfl) (r_block ?_))))))
   refine r_loop_2 (fun (q:Nat) (vs1:List Int)=>[(5,true,.int .i64 (q:Int))]) (kp [0,2,3,4] rfl) (fun (q:Nat) (vs1:List Int)=>blk b3 (vs1.map vI) 38::blk b2 [.int .i64 0,.int .i64 0,.int .i64 0,.int .i64 0,.int .i64 0,.int .i64 0] 38::blk b (lv::ov::mkR t.ws p0 p1 p2 bv) 73::sl lv 148 4 (List.zipWith rowD ts t.b.l)::sl ov 3 1 (t.b.order.map rI)::manyP bdealP ts t.b.l::manyP penP [p0,p1,p2] t.ks::sl bv 139 6 (t.post.map rM)::R) (fun (q:Nat) (vs1:List Int)=>q≤2∧vs1.length=6∧∀ j:Nat,j<2*s+q→vs1.getD j 0=(worldT t).getD j 0) (fun (q:Nat) (vs1:List Int)=>2 - q) (0) (vs) ?_ (kp [5] rfl) ?_ (fun q vs1 hI=>?_)
   ·exact⟨Nat.zero_le _,hvl,hv⟩
   ·apply eI;repeat constructor
   ·skip
    obtain⟨hq0,hvl1,hv1⟩:=hI
    refine r_seq (r_sr (p_mv rfl rfl (p_lss rfl rfl rfl (o_keep (kp [0,2,3,4,5,11] rfl) (r_cond _ rfl (fun h2=>?_) (fun h2=>?_))))))
    ·skip
     have hq2:q<2:=by have:=of_decide_eq_true h2;omega
     obtain⟨ix,hix⟩:∃ ix:Nat,ix=2*s+q:=⟨_,rfl⟩
     refine r_skip (r_seq (r_block ?_))
     refine r_many (P:=penP) (bs:=[p0,p1,p2]) s (cAt_get hs3) hk3 ?_
     refine r_ex2 fun bb pv=>?_
     refine r_cat ?_
     refine r_sel (boothP bb k.shop) ?_
     refine r_ex3 fun hv xv dv=>?_
     refine r_cat ?_
     refine r_region (p_mv rfl rfl (p_mul rfl rfl (by omega) rfl (p_mv rfl rfl (p_add rfl rfl (by omega) rfl (p_mv rfl rfl (p_mv rfl rfl (p_nil rfl rfl ?_)))))))
     refine p_fa fa_73_2 rfl rfl (l_op (x_p (pv_aidx (i:=s) Tryz.underlying69 (.ofC tc_68) (fun hg=>⟨rfl,hs3⟩) (.n rfl) rfl rfl rfl fS) rfl rfl (l_op (x_r (q_ldci (i:=8+s) tc_68 (.n rfl) rfl rfl fR (by omega) (mk_cell hs3)) rfl rfl ?_))))
     refine p_nil rfl rfl (p_fa fa_110_0 rfl rfl (p_ldc tc_107 rfl (by rfl) rfl ?_))
     refine p_mv rfl rfl (p_nil rfl rfl (p_fa fa_114_1 rfl rfl (l_op (x_p (pv_aidx (i:=q) Tryz.underlying111 (.ofC tc_3) (fun hg=>⟨rfl,hq2⟩) (.n rfl) rfl rfl rfl fS) rfl rfl (l_op (x_r (q_ldci (i:=1+q) tc_3 (.n rfl) rfl rfl fR (by omega) (bo_cell hq2)) rfl rfl ?_))))))
     refine l_op (x_p (pv_aidx (i:=ix) Tryz.underlying38 (.ofC tc_3) (fun hg=>⟨by omega,by omega⟩) (.n rfl) rfl rfl rfl fS) rfl rfl ?_)
     refine p_store (.ofC tc_3) rfl rfl rfl rfl rfl (Ins.atm' (f:=vI) (i:=ix) (by omega) (by omega)) ?_
     refine o_keep (kp [0,2,3,4,5] rfl) (r_end (r_region (p_mv rfl rfl (p_add rfl rfl (by omega) rfl (p_as rfl rfl (o_keep (kp [0,2,3,4,5] rfl) ?_))))))
     refine r_back_2 (q+1) (vs1.set ix (if q=0 then k.shop.c0 else k.shop.c1).v) ?_ ?_ (Keep.app (kp [5] rfl) (kp [0,2,3,4] rfl)) ?_
     ·exact⟨by omega,by simp;omega,fun j hj=>wset (n:=ix) (fun j hj=>hv1 j (by omega)) (by omega) (by rw[hix];rcases (show q=0∨q=1 by omega) with rfl|rfl;exact hw1.symm;exact hw2.symm) j (by omega)⟩
     ·omega
     ·refine Ent.tr (boothP_close (b:=bb) (s:=k.shop) hv xv dv rfl rfl rfl rfl) ?_;refine Ent.tr (penP_close (b:=cAt p0 p1 p2 s) (k:=k) bb pv rfl rfl) ?_;refine Ent.tr (Ent.mono (SelX.ent (X:=restP penP [p0,p1,p2] t.ks s))) ?_;refine Ent.tr (many_back (cAt_get hs3) hk3) ?_;apply eI;repeat constructor
    ·skip
     have hq2:q=2:=by have:=of_decide_eq_false h2;omega
     refine r_exit rfl (r_end (r_region (p_mv rfl rfl (p_add rfl rfl (by omega) rfl (p_as rfl rfl (o_keep (kp [0,2,3,4] rfl) ?_))))))
     refine r_back_2 (s+1) (vs1) ?_ ?_ (Keep.app (kp [4] rfl) (kp [0,2,3] rfl)) ?_
     ·exact⟨by omega,hvl1,fun j hj=>hv1 j (by omega)⟩
     ·omega
     ·apply eI;repeat constructor
  ·skip
   have hs3:s=3:=by have:=of_decide_eq_false h1;omega
   have hvW:vs=worldT t:=wext hvl hWl fun j hj=>hv j (by omega)
   refine r_exit rfl (r_sr ?_)
   refine p_lda ta_38 rfl (by exact (Tk.all (by first|rfl|assumption|(simp only[List.drop_zero,List.length_map];assumption)|(simp[*];done)))) rfl ?_
   refine p_store (.ofA ta_38) rfl rfl rfl (by first|rfl|exact (by first|rfl|assumption|(simp only[List.drop_zero,List.length_map];assumption)|(simp[*];done))) (by first|rfl|exact (by first|rfl|simp[vI,Value.oneCell'])) (Ins.whole (by simp;omega)) ?_
   refine o_keep (kp [2] rfl) ?_
   refine r_retv hF rfl (.c (.a rfl ta_38 (.blk (SelB.ent) (Tk.all rfl)) (by first|rfl|assumption|(simp only[List.drop_zero,List.length_map];assumption)|(simp[*];done))) .n) ?_ ?_
   ·refine Ent.catI ?_;apply eI;repeat constructor
   ·rw[hvW];rfl
theorem market_Serial_o (M:Amb)(b:Nat)(t:TownS)(lv ov:Value)(ts:List DT)(p0 p1 p2:Nat)(bv:Value)(hts:ts.length=t.b.l.length)(hT:TInv t):FnC Tryz.prog M 40 [ptr b] (.tuple #[.agg ((serialT t).1.map vI).toArray,.int .i64 (serialT t).2]) [blk b (lv::ov::mkR t.ws p0 p1 p2 bv) 73,sl lv 148 4 (List.zipWith rowD ts t.b.l),sl ov 3 1 (t.b.order.map rI),manyP bdealP ts t.b.l,manyP penP [p0,p1,p2] t.ks,sl bv 139 6 (t.post.map rM)] [blk b (lv::ov::mkR t.ws p0 p1 p2 bv) 73,sl lv 148 4 (List.zipWith rowD ts t.b.l),sl ov 3 1 (t.b.order.map rI),manyP bdealP ts t.b.l,manyP penP [p0,p1,p2] t.ks,sl bv 139 6 (t.post.map rM)]:=by
 have hol:=hT.b.ord_le
 refine fnc_intro Tryz.func40 rfl Tryz.ntmps40 rfl fun R F hF=>?_
 refine r_cat ?_
 refine r_rd lv fun hrl=>?_
 refine r_rd ov fun hro=>?_
 refine r_sr (p_alloc zr_38 rfl fun b2=>?_)
 refine p_as rfl rfl (o_keep (kp [0,2,3] rfl) (r_sr (p_mv rfl rfl (p_nil rfl rfl (p_fa fa_73_1 rfl rfl ?_)))))
 refine p_lda ta_38 rfl (by exact (.s (.s (.s (.s (.s (.s .z))))))) rfl ?_
 refine p_alloc zr_38 rfl fun b4=>?_
 refine p_store (.ofA ta_38) rfl rfl rfl (by first|rfl|exact (by first|rfl|assumption|(simp only[List.drop_zero,List.length_map];assumption)|(simp[*];done))) (by first|rfl|exact (by first|rfl|simp[vI,Value.oneCell'])) (Ins.whole (by first|rfl|(simp only[List.length_map,List.length_cons,List.length_nil];omega)|(simp[*];done)|(simp[*];rfl))) ?_
 refine o_keep (.c 0 rfl (.c 2 rfl (.c 3 rfl (.c 4 rfl .n)))) (r_seq (r_sr (p_as rfl rfl (o_keep (.c 0 rfl (.c 2 rfl (.c 3 rfl (.c 4 rfl (.c 5 rfl .n))))) (r_block ?_)))))
 refine r_loop_2 (fun (i:Nat) (wc:List Int)=>[(5,true,.int .i64 (i:Int))]) (kp [0,2,3,4] rfl) (fun (i:Nat) (wc:List Int)=>blk b4 (wc.map vI) 38::blk b2 [.int .i64 0,.int .i64 0,.int .i64 0,.int .i64 0,.int .i64 0,.int .i64 0] 38::blk b (lv::ov::mkR t.ws p0 p1 p2 bv) 73::sl lv 148 4 (List.zipWith rowD ts t.b.l)::sl ov 3 1 (t.b.order.map rI)::manyP bdealP ts t.b.l::manyP penP [p0,p1,p2] t.ks::sl bv 139 6 (t.post.map rM)::R) (fun (i:Nat) (wc:List Int)=>i≤t.b.order.length∧wc.length=6∧serialT t=serialL t.b wc (t.b.order.drop i)) (fun (i:Nat) (wc:List Int)=>t.b.order.length - i) (0) (w6 t.ws) ?_ (kp [5] rfl) ?_ (fun i wc hI=>?_)
 ·exact⟨Nat.zero_le _,rfl,by rw[w6_eq hT.ws6];rfl⟩
 ·apply eI;repeat constructor
 ·skip
  obtain⟨hi0,hwc,hS⟩:=hI
  refine r_seq (r_sr (p_mv rfl rfl (p_mv rfl rfl (p_nil rfl rfl (p_fa fa_73_0 rfl rfl (p_fa fa_67_1 rfl rfl (p_ldc tc_65 rfl (by rfl) rfl ?_)))))))
  refine l_op (x_p (pv_lens (Rd.len hro) ⟨_,Tryz.underlying65⟩ (.n rfl) rfl rfl rfl rfl fR) rfl rfl (p_lss rfl rfl rfl (o_keep (kp [0,2,3,4,5,19] rfl) (r_cond _ rfl (fun h1=>?_) (fun h1=>?_)))))
  ·skip
   obtain⟨n,hn⟩:=getlt (l:=t.b.order) (i:=i) (by have:=of_decide_eq_true h1;omega)
   have hil:=(List.getElem?_eq_some_iff.1 hn).1
   obtain⟨j,d,hnj,hd,hwd⟩:=ord_deal hT.b hn
   have hdw:=(hT.b.d d (List.mem_of_getElem? hd)).le.1
   obtain⟨dt,ht⟩:=getlt (l:=ts) (i:=j) (by have:=(List.getElem?_eq_some_iff.1 hd).1;omega)
   rw[drop_at hn] at hS
   unfold serialL at hS
   rw[hwd] at hS
   have hal:=applyL_len (ws:=wc) (l:=d.wants) hwc
   refine r_skip (r_seq (r_block (r_seq ?_)))
   refine r_bdeal j ht hd fun hy=>?_
   refine r_cat ?_
   refine r_rd dt.wv fun hrw=>?_
   refine r_plan _ [] mo (kp [0,2,3,4,5] rfl) Ent.rfl ?_
   refine qr 0 [.k 4] rfl rfl rfl rfl (by kernel_rfl) rfl (fun He=>q_lda ta_38 (.n rfl) rfl rfl (fun _=>rfl) (by exact (Tk.all (by first|rfl|assumption|(simp only[List.drop_zero,List.length_map];assumption)|(simp[*];done))))) ?_
   refine yp 1 [.k 0] rfl rfl (by kernel_rfl) (u_mv rfl rfl rfl) (yp 2 [.o 1] rfl rfl (by kernel_rfl) (u_nil rfl rfl rfl) (yp 3 [.o 2] rfl rfl (by kernel_rfl) (u_fa fa_73_0 rfl rfl rfl) (yp 4 [.o 3] rfl rfl (by kernel_rfl) (u_fa fa_67_0 rfl rfl rfl) (yr 5 [.o 4] rfl rfl (by kernel_rfl) (fun He=>u_ldc tc_64 rfl rfl rfl (by rfl)) ?_))))
   refine yp 6 [.k 0] rfl rfl (by kernel_rfl) (u_mv rfl rfl rfl) (yp 7 [.o 6] rfl rfl (by kernel_rfl) (u_nil rfl rfl rfl) (yp 8 [.o 7] rfl rfl (by kernel_rfl) (u_fa fa_73_0 rfl rfl rfl) (yp 9 [.o 8] rfl rfl (by kernel_rfl) (u_fa fa_67_1 rfl rfl rfl) (yr 10 [.o 9] rfl rfl (by kernel_rfl) (fun He=>u_ldc tc_65 rfl rfl rfl (by rfl)) ?_))))
   refine yp 11 [.k 5] rfl rfl (by kernel_rfl) (u_mv rfl rfl rfl) (yp 12 [.o 10,.o 11] rfl rfl (by kernel_rfl) (pv_idx Tryz.underlying65 (.ofC tc_3) hro (fun hg=>⟨rfl,(mapget hn)⟩) (.n rfl) rfl rfl rfl fS) ?_)
   refine yr 13 [.o 12] rfl rfl (by kernel_rfl) (fun He=>rv_ldat (j:=0) tc_3 (Rd.ent hro (eJ (by repeat constructor))) (fun hg=>(mapget hn)) (.n rfl) rfl rfl fR rfl fR) ?_
   refine yp 14 [.o 5,.o 13] rfl rfl (by kernel_rfl) (pv_idx Tryz.underlying64 (.ofA ta_148) hrl (fun hg=>⟨hnj,(zip_get ht hd)⟩) (.n rfl) rfl rfl rfl fS) (yp 15 [.o 14] rfl rfl (by kernel_rfl) (pv_faat fa_148_0 (fun hg=>Rd.sh hrl (zip_get ht hd)) (.n rfl) rfl rfl fR) ?_)
   refine yr 16 [.o 15] rfl rfl (by kernel_rfl) (fun He=>rv_ldat (j:=0) tc_89 (Rd.ent hrl (eJ (by repeat constructor))) (fun hg=>(zip_get ht hd)) (.n rfl) rfl rfl fR rfl fR) ?_
   refine yq 17 [.o 0,.o 16] rfl rfl (by kernel_rfl) (fun He=>rq_call cf_77 (.n rfl) rfl (.c rfl fR (.c rfl fR .n)) (fun hg=>ref_Applied _ _ dt.wv d.wants wc (Rd.ent hrw (eJ (by repeat constructor))) (by omega) hwc)) ?_
   refine yp 18 [.o 17] rfl rfl (by kernel_rfl) (u_mv rfl rfl rfl) (yp 19 [.o 18] rfl rfl (by kernel_rfl) (u_ext rfl rfl rfl rfl) (yp 20 [.o 18] rfl rfl (by kernel_rfl) (u_ext rfl rfl rfl rfl) ?_))
   refine qm_alloc2 (i:=21) (j:=22) zr_38 zr_31 (by kernel_rfl) (by kernel_rfl) rfl rfl rfl rfl rfl rfl rfl rfl rfl (by kernel_rfl) (fun _=>by kernel_rfl) (fun _=>by kernel_rfl) rfl rfl rfl rfl fun b6 b7=>?_
   refine qm_store (.ofA ta_38) (i:=23) [.o 21,.o 19] (by kernel_rfl) (by kernel_rfl) rfl rfl rfl (by kernel_rfl) (by kernel_rfl) ⟨_,.n rfl,rfl⟩ rfl rfl rfl rfl (by first|rfl|exact (by first|rfl|assumption|(simp only[List.drop_zero,List.length_map];assumption)|(simp[*];done))) (by first|rfl|exact (by first|rfl|simp[vI,Value.oneCell'])) (Ins.whole (by simp;omega)) ?_
   refine qb_store (.ofA ta_31) (i:=24) [.o 22,.o 20] (by kernel_rfl) (by kernel_rfl) rfl rfl rfl (by kernel_rfl) (by kernel_rfl) (by kernel_rfl) ⟨_,.n rfl,rfl⟩ rfl rfl rfl rfl (by first|rfl|exact rfl) (by first|rfl|exact (by first|rfl|simp[vI,Value.oneCell'])) (Ins.whole (by first|rfl|(simp only[List.length_map,List.length_cons,List.length_nil];omega)|(simp[*];done)|(simp[*];rfl))) ?_
   refine qm_n (by kernel_rfl) (by kernel_rfl) (by kernel_rfl) (by kernel_rfl) (.c 0 rfl (.c 2 rfl (.c 3 rfl (.c 4 rfl (.c 5 rfl (.c 6 rfl (.c 7 rfl .n))))))) ?_
   refine r_seq (r_seq ?_)
   refine r_ent (bdealP_close (d:=d) dt hy rfl rfl rfl) ?_
   refine r_sel (restP bdealP ts t.b.l j) ?_
   refine r_sel (bdealP dt d) ?_
   refine r_ent (many_back ht hd) ?_
   refine r_region (p_fa fa_31_0 rfl rfl (p_ldc tc_3 rfl (by rfl) rfl ?_))
   refine p_neq rfl rfl rfl (o_keep (kp [0,2,3,4,5,6,7,45] rfl) (r_cond _ rfl (fun h2=>?_) (fun h2=>?_)))
   ·skip
    have hc0:(applyL wc d.wants).2.code≠0:=by simpa using h2
    rw[if_pos hc0] at hS
    have hs:=hS
    refine r_seq ?_
    refine r_plan (_) ([blk b2 [.int .i64 0,.int .i64 0,.int .i64 0,.int .i64 0,.int .i64 0,.int .i64 0] 38]) mo (kp [0,2,4,5,6,7] rfl) (SelB.ent) ?_
    refine yp 0 [] rfl rfl (by kernel_rfl) (pv_buildA zr_38 Tryz.underlying38 (.ofC tc_3) (.n rfl) rfl (.n)) (yp 1 [.k 7] rfl rfl (by kernel_rfl) (u_fa fa_31_0 rfl rfl rfl) (yr 2 [.o 1] rfl rfl (by kernel_rfl) (fun He=>u_ldc tc_3 rfl rfl rfl (by rfl)) ?_))
    refine qm_store (.ofA ta_38) (i:=3) [.k 2,.o 0] (by kernel_rfl) (by kernel_rfl) rfl rfl rfl (by kernel_rfl) (by kernel_rfl) ⟨_,.n rfl,rfl⟩ rfl rfl rfl rfl rfl rfl (Ins.whole rfl) ?_
    refine yp 4 [.o 2] rfl rfl (by kernel_rfl) (u_as rfl rfl rfl) ?_
    refine qm_n (by kernel_rfl) (by kernel_rfl) (by kernel_rfl) (by kernel_rfl) (kp [0,2,3,4,5,6] rfl) ?_
    refine r_retv hF rfl (.c (.a rfl ta_38 (.blk (SelB.ent) (Tk.all rfl)) rfl) (.c (.t rfl) .n)) ?_ ?_
    ·refine Ent.catI ?_;apply eI;repeat constructor
    ·rw[hs];rfl
   ·skip
    have hc0:¬ (applyL wc d.wants).2.code≠0:=by simpa using h2
    rw[if_neg hc0] at hS
    refine r_skip (r_region ?_)
    refine p_lda ta_38 rfl (by exact (Tk.all (by first|rfl|assumption|(simp only[List.drop_zero,List.length_map];assumption)|(simp[*];done)))) rfl ?_
    refine p_store (.ofA ta_38) rfl rfl rfl (by first|rfl|exact (by first|rfl|assumption|(simp only[List.drop_zero,List.length_map];assumption)|(simp[*];done))) (by first|rfl|exact (by first|rfl|simp[vI,Value.oneCell'])) (Ins.whole (by simp;omega)) ?_
    refine o_keep (kp [0,2,3,4,5] rfl) (r_end (r_region (p_mv rfl rfl (p_add rfl rfl (by omega) rfl (p_as rfl rfl (o_keep (kp [0,2,3,4,5] rfl) ?_))))))
    refine r_back_2 (i+1) ((applyL wc d.wants).1) ?_ ?_ (Keep.app (kp [5] rfl) (kp [0,2,3,4] rfl)) ?_
    ·exact⟨by omega,hal,hS⟩
    ·omega
    ·apply eI;repeat constructor
  ·skip
   have hj:t.b.order.length≤i:=by have:=of_decide_eq_false h1;omega
   rw[List.drop_eq_nil_of_le hj] at hS
   have hs:serialT t=(wc,0):=by rw[hS];rfl
   refine r_exit rfl (r_sr ?_)
   refine p_lda ta_38 rfl (by exact (Tk.all (by first|rfl|assumption|(simp only[List.drop_zero,List.length_map];assumption)|(simp[*];done)))) rfl ?_
   refine p_store (.ofA ta_38) rfl rfl rfl (by first|rfl|exact (by first|rfl|assumption|(simp only[List.drop_zero,List.length_map];assumption)|(simp[*];done))) (by first|rfl|exact (by first|rfl|simp[vI,Value.oneCell'])) (Ins.whole (by simp;omega)) ?_
   refine p_as rfl rfl (o_keep (kp [2,3] rfl) ?_)
   refine r_retv hF rfl (.c (.a rfl ta_38 (.blk (SelB.ent) (Tk.all rfl)) (by first|rfl|assumption|(simp only[List.drop_zero,List.length_map];assumption)|(simp[*];done))) (.c (.t rfl) .n)) ?_ ?_
   ·refine Ent.catI ?_;apply eI;repeat constructor
   ·rw[hs];rfl
theorem market_Step (M:Amb)(R:List HP)(b:Nat)(t:TownS)(hT:TInv t)(x:TStep)(hv:Rd M R x.wv 2 (x.wants.map rW))(hb:x.wants.length≤100000):FnR Tryz.prog M (marketP b t::R) 36 [ptr b,.agg (rTS x).toArray] (fun u H'=>u=.int .i64 (stepT t x.s).2∧H'=marketP b (stepT t x.s).1::R):=by
 have hfull:=hT.full
 have hlen3:=hT.len
 have hw6:=hT.ws6
 have hol:=hT.b.ord_le
 obtain⟨xk,xn,xv,xw⟩:=x
 dsimp only at hv hb
 refine fn_intro Tryz.func36 rfl Tryz.ntmps36 rfl fun F hF=>?_
 refine r_sr (p_box rfl rfl rfl fun b3=>?_)
 refine p_as rfl rfl (o_keep (kp [0,3,4] rfl) (r_seq (r_sr (p_fa fa_91_0 rfl rfl (p_ldc tc_3 rfl (by rfl) rfl ?_)))))
 refine o_keep (kp [0,3,4,11] rfl) (r_block (r_sr (p_eql rfl rfl rfl (p_as rfl rfl (o_keep (kp [0,3,4,11,12] rfl) (r_cond _ rfl (fun h1=>?_) (fun h1=>?_)))))))
 ·skip
  have q1:xk=1:=of_decide_eq_true h1
  have hs:=stepT_1 (t:=t) (x:=⟨xk,xn,xw⟩) q1
  refine r_seq ?_
  refine r_sel (marketP b t) ?_
  refine r_marketB fun p0 p1 p2 bv=>?_
  refine r_plan (_) ([bookP b 73 (mkR t.ws p0 p1 p2 bv) t.b]) mo (kp [0,3,4] rfl) (SelX.ent) ?_
  refine yp 0 [.k 0] rfl rfl (by kernel_rfl) (u_mv rfl rfl rfl) (yp 1 [.o 0] rfl rfl (by kernel_rfl) (u_nil rfl rfl rfl) (yp 2 [.o 1] rfl rfl (by kernel_rfl) (u_fa fa_73_0 rfl rfl rfl) (yp 3 [.k 3] rfl rfl (by kernel_rfl) (u_fa fa_91_2 rfl rfl rfl) (yr 4 [.o 3] rfl rfl (by kernel_rfl) (fun He=>u_ldc tc_89 rfl rfl rfl (by rfl)) ?_))))
  refine qm_call (i:=5) [.o 2,.o 4] (by kernel_rfl) (by kernel_rfl) rfl rfl rfl rfl (by kernel_rfl) (by kernel_rfl) ⟨_,.n rfl,rfl⟩ cf_69 rfl (.c rfl (.c rfl .n)) (book_BeginR _ 73 (mkR t.ws p0 p1 p2 bv) b t.b hT.b _ xv xw (Rd.ent hv (by repeat (first|exact Ent.rfl|refine Ent.dropR ?_))) hb) ?_
  rintro _ _ ⟨rfl,rfl⟩
  refine⟨[bookP b 73 (mkR t.ws p0 p1 p2 bv) (beginB t.b xw).1],rfl,?_⟩
  refine yp 6 [.o 5] rfl rfl (by kernel_rfl) (u_mv rfl rfl rfl) (yp 7 [.o 6] rfl rfl (by kernel_rfl) (u_ext rfl rfl rfl rfl) (yp 8 [.o 6] rfl rfl (by kernel_rfl) (u_ext rfl rfl rfl rfl) (yp 9 [.o 7] rfl rfl (by kernel_rfl) (u_as rfl rfl rfl) (yp 10 [.o 8] rfl rfl (by kernel_rfl) (u_as rfl rfl rfl) ?_))))
  refine qm_n (by kernel_rfl) (by kernel_rfl) (by kernel_rfl) (by kernel_rfl) (kp [4,6] rfl) ?_
  refine r_sr (p_mv rfl rfl (p_as rfl rfl (o_keep (kp [4] rfl) ?_)))
  refine r_retv hF rfl (.c (.t rfl) .n) ?_ ?_
  ·rw[hs];refine Ent.c (marketP_bclose (t:={t with b:=(beginB t.b xw).1}) p0 p1 p2 bv rfl) ?_;apply eI;repeat constructor
  ·rw[hs];rfl
 ·skip
  have q1:¬ xk=1:=of_decide_eq_false h1
  refine r_sr (p_eql rfl rfl rfl (p_as rfl rfl (o_keep (kp [0,3,4,11,24] rfl) (r_cond _ rfl (fun h2=>?_) (fun h2=>?_)))))
  ·skip
   have q2:xk=2:=of_decide_eq_true h2
   have hs:=stepT_2 (t:=t) (x:=⟨xk,xn,xw⟩) q2
   refine r_sr (p_mv rfl rfl ?_)
   refine p_callc cf_70 (.c rfl .n) rfl (market_tick _ b t hT) ?_
   refine o_keep (kp [4] rfl) (r_sr (p_as rfl rfl (o_keep (kp [4] rfl) ?_)))
   refine r_retv hF rfl (.c (.t rfl) .n) ?_ ?_
   ·rw[hs];refine Ent.c (SelX.ent) ?_;apply eI;repeat constructor
   ·rw[hs];rfl
  ·skip
   have q2:¬ xk=2:=of_decide_eq_false h2
   refine r_sr (p_eql rfl rfl rfl (p_as rfl rfl (o_keep (kp [0,3,4,11,28] rfl) (r_cond _ rfl (fun h3=>?_) (fun h3=>?_)))))
   ·skip
    have q3:xk=3:=of_decide_eq_true h3
    have hs:=stepT_3 (t:=t) (x:=⟨xk,xn,xw⟩) q3
    refine r_sr (p_mv rfl rfl (p_fa fa_91_1 rfl rfl (p_ldc tc_3 rfl (by rfl) rfl ?_)))
    refine p_callc cf_71 (.c rfl (.c rfl .n)) rfl (market_deliver _ b t hT xn) ?_
    refine p_as rfl rfl (o_keep (kp [4] rfl) ?_)
    refine r_retv hF rfl (.c (.t rfl) .n) ?_ ?_
    ·rw[hs];refine Ent.c (SelX.ent) ?_;apply eI;repeat constructor
    ·rw[hs];rfl
   ·skip
    have q3:¬ xk=3:=of_decide_eq_false h3
    refine r_sr (p_eql rfl rfl rfl (p_as rfl rfl (o_keep (kp [0,3,4,11,34] rfl) (r_cond _ rfl (fun h4=>?_) (fun h4=>?_)))))
    ·skip
     have q4:xk=4:=of_decide_eq_true h4
     have hs:=stepT_4 (t:=t) (x:=⟨xk,xn,xw⟩) q4
     dsimp only at hs
     refine r_seq (r_seq ?_)
     rcases hm:takeM t.post xn with _|m
     ·skip
      refine r_sel (marketP b t) ?_
      refine r_marketX fun lv ov ts p0 p1 p2 hts=>?_
      refine r_plan (_) ([mboxP b t.ws lv ov p0 p1 p2 t.post]) mo (kp [0,3,4] rfl) (SelX.ent) ?_
      refine yp 0 [.k 0] rfl rfl (by kernel_rfl) (u_mv rfl rfl rfl) (yp 1 [.o 0] rfl rfl (by kernel_rfl) (u_nil rfl rfl rfl) (yp 2 [.o 1] rfl rfl (by kernel_rfl) (u_fa fa_73_3 rfl rfl rfl) (yp 3 [.k 3] rfl rfl (by kernel_rfl) (u_fa fa_91_1 rfl rfl rfl) (yr 4 [.o 3] rfl rfl (by kernel_rfl) (fun He=>u_ldc tc_3 rfl rfl rfl (by rfl)) ?_))))
      refine qm_two (i:=5) (j:=9) (by kernel_rfl) (by kernel_rfl) (by kernel_rfl) ?_ ?_
      ·skip
       refine cand_callc [.o 2,.o 4] rfl rfl rfl rfl rfl rfl cf_72 rfl (.c rfl (.c rfl .n)) (mbox_Take_n _ b t.ws lv ov p0 p1 p2 t.post (by omega) xn hm) ?_
       refine yp 6 [.o 5] rfl rfl (by kernel_rfl) (u_mv rfl rfl rfl) (yp 7 [.o 6] rfl rfl (by kernel_rfl) (u_ext rfl rfl rfl rfl) (yp 8 [.o 6] rfl rfl (by kernel_rfl) (u_ext rfl rfl rfl rfl) ?_))
       refine qm_alloc zr_139 (i:=9) [] (by kernel_rfl) (by kernel_rfl) rfl rfl rfl rfl (by kernel_rfl) (by kernel_rfl) ⟨_,.n rfl,rfl⟩ rfl fun b7=>?_
       refine qm_store (.ofA ta_139) (i:=10) [.o 9,.o 7] (by kernel_rfl) (by kernel_rfl) rfl rfl rfl (by kernel_rfl) (by kernel_rfl) ⟨_,.n rfl,rfl⟩ rfl rfl rfl rfl rfl rfl (Ins.whole rfl) ?_
       refine yp 11 [.o 8] rfl rfl (by kernel_rfl) (u_as rfl rfl rfl) ?_
       refine qm_n (by kernel_rfl) (by kernel_rfl) (by kernel_rfl) (by kernel_rfl) (kp [4,8] rfl) ?_
       refine r_sr (p_mv rfl rfl (p_not rfl rfl (o_keep (kp [4,46] rfl) (r_cond _ rfl (fun h5=>?_) (fun h5=>?_)))))
       ·skip
        rw[hm] at hs
        simp only[Option.isSome_none,Bool.false_eq_true,if_false] at hs
        refine r_sr (p_as rfl rfl (o_keep (kp [4] rfl) ?_))
        refine r_retv hF rfl (.c (.t rfl) .n) ?_ ?_
        ·rw[hs];refine Ent.c (marketP_xclose (t:=t) lv ov ts p0 p1 p2 hts rfl rfl) ?_;apply eI;repeat constructor
        ·rw[hs];rfl
       ·simp at h5
      ·skip
       refine cand_alloc zr_139 rfl rfl rfl rfl rfl rfl fun b7=>?_
       refine qm_callc (i:=5) [.o 2,.o 4] (by kernel_rfl) (by kernel_rfl) rfl rfl rfl rfl (by kernel_rfl) (by kernel_rfl) ⟨_,.n rfl,rfl⟩ cf_72 rfl (.c rfl (.c rfl .n)) (mbox_Take_n _ b t.ws lv ov p0 p1 p2 t.post (by omega) xn hm) ?_
       refine yp 6 [.o 5] rfl rfl (by kernel_rfl) (u_mv rfl rfl rfl) (yp 7 [.o 6] rfl rfl (by kernel_rfl) (u_ext rfl rfl rfl rfl) (yp 8 [.o 6] rfl rfl (by kernel_rfl) (u_ext rfl rfl rfl rfl) ?_))
       refine qm_store (.ofA ta_139) (i:=10) [.o 9,.o 7] (by kernel_rfl) (by kernel_rfl) rfl rfl rfl (by kernel_rfl) (by kernel_rfl) ⟨_,.n rfl,rfl⟩ rfl rfl rfl rfl rfl rfl (Ins.whole rfl) ?_
       refine yp 11 [.o 8] rfl rfl (by kernel_rfl) (u_as rfl rfl rfl) ?_
       refine qm_n (by kernel_rfl) (by kernel_rfl) (by kernel_rfl) (by kernel_rfl) (kp [4,8] rfl) ?_
       refine r_sr (p_mv rfl rfl (p_not rfl rfl (o_keep (kp [4,46] rfl) (r_cond _ rfl (fun h6=>?_) (fun h6=>?_)))))
       ·skip
        rw[hm] at hs
        simp only[Option.isSome_none,Bool.false_eq_true,if_false] at hs
        refine r_sr (p_as rfl rfl (o_keep (kp [4] rfl) ?_))
        refine r_retv hF rfl (.c (.t rfl) .n) ?_ ?_
        ·rw[hs];refine Ent.c (marketP_xclose (t:=t) lv ov ts p0 p1 p2 hts rfl rfl) ?_;apply eI;repeat constructor
        ·rw[hs];rfl
       ·simp at h6
     ·skip
      refine r_sel (marketP b t) ?_
      refine r_marketX fun lv ov ts p0 p1 p2 hts=>?_
      refine r_plan (_) ([mboxP b t.ws lv ov p0 p1 p2 t.post]) mo (kp [0,3,4] rfl) (SelX.ent) ?_
      refine yp 0 [.k 0] rfl rfl (by kernel_rfl) (u_mv rfl rfl rfl) (yp 1 [.o 0] rfl rfl (by kernel_rfl) (u_nil rfl rfl rfl) (yp 2 [.o 1] rfl rfl (by kernel_rfl) (u_fa fa_73_3 rfl rfl rfl) (yp 3 [.k 3] rfl rfl (by kernel_rfl) (u_fa fa_91_1 rfl rfl rfl) (yr 4 [.o 3] rfl rfl (by kernel_rfl) (fun He=>u_ldc tc_3 rfl rfl rfl (by rfl)) ?_))))
      refine qm_two (i:=5) (j:=9) (by kernel_rfl) (by kernel_rfl) (by kernel_rfl) ?_ ?_
      ·skip
       refine cand_callc [.o 2,.o 4] rfl rfl rfl rfl rfl rfl cf_72 rfl (.c rfl (.c rfl .n)) (mbox_Take_s _ b t.ws lv ov p0 p1 p2 t.post (by omega) xn m hm) ?_
       refine yp 6 [.o 5] rfl rfl (by kernel_rfl) (u_mv rfl rfl rfl) (yp 7 [.o 6] rfl rfl (by kernel_rfl) (u_ext rfl rfl rfl rfl) (yp 8 [.o 6] rfl rfl (by kernel_rfl) (u_ext rfl rfl rfl rfl) ?_))
       refine qm_alloc zr_139 (i:=9) [] (by kernel_rfl) (by kernel_rfl) rfl rfl rfl rfl (by kernel_rfl) (by kernel_rfl) ⟨_,.n rfl,rfl⟩ rfl fun b7=>?_
       refine qm_store (.ofA ta_139) (i:=10) [.o 9,.o 7] (by kernel_rfl) (by kernel_rfl) rfl rfl rfl (by kernel_rfl) (by kernel_rfl) ⟨_,.n rfl,rfl⟩ rfl rfl rfl rfl (by first|rfl|exact rfl) (by first|rfl|exact rfl) (Ins.whole (by first|rfl|(simp only[List.length_map,List.length_cons,List.length_nil];omega)|(simp[*];done)|(simp[*];rfl))) ?_
       refine qp 11 [.o 8] rfl rfl rfl rfl (by kernel_rfl) rfl (u_as rfl rfl rfl) ?_
       refine qm_n (by kernel_rfl) (by kernel_rfl) (by kernel_rfl) (by kernel_rfl) (kp [4,8] rfl) ?_
       refine r_sr (p_mv rfl rfl (p_not rfl rfl (o_keep (kp [4,46] rfl) (r_cond _ rfl (fun h7=>?_) (fun h7=>?_)))))
       ·simp at h7
       ·skip
        rw[hm] at hs
        simp only[Option.isSome_some,if_true] at hs
        refine r_skip (r_sr (p_as rfl rfl (o_keep (kp [4] rfl) ?_)))
        refine r_retv hF rfl (.c (.t rfl) .n) ?_ ?_
        ·rw[hs];refine Ent.c (marketP_xclose (t:={t with post:=takeL t.post xn}) lv ov ts p0 p1 p2 hts rfl rfl) ?_;apply eI;repeat constructor
        ·rw[hs];rfl
      ·skip
       refine cand_alloc zr_139 rfl rfl rfl rfl rfl rfl fun b7=>?_
       refine qm_callc (i:=5) [.o 2,.o 4] (by kernel_rfl) (by kernel_rfl) rfl rfl rfl rfl (by kernel_rfl) (by kernel_rfl) ⟨_,.n rfl,rfl⟩ cf_72 rfl (.c rfl (.c rfl .n)) (mbox_Take_s _ b t.ws lv ov p0 p1 p2 t.post (by omega) xn m hm) ?_
       refine yp 6 [.o 5] rfl rfl (by kernel_rfl) (u_mv rfl rfl rfl) (yp 7 [.o 6] rfl rfl (by kernel_rfl) (u_ext rfl rfl rfl rfl) (yp 8 [.o 6] rfl rfl (by kernel_rfl) (u_ext rfl rfl rfl rfl) ?_))
       refine qm_store (.ofA ta_139) (i:=10) [.o 9,.o 7] (by kernel_rfl) (by kernel_rfl) rfl rfl rfl (by kernel_rfl) (by kernel_rfl) ⟨_,.n rfl,rfl⟩ rfl rfl rfl rfl (by first|rfl|exact rfl) (by first|rfl|exact rfl) (Ins.whole (by first|rfl|(simp only[List.length_map,List.length_cons,List.length_nil];omega)|(simp[*];done)|(simp[*];rfl))) ?_
       refine qp 11 [.o 8] rfl rfl rfl rfl (by kernel_rfl) rfl (u_as rfl rfl rfl) ?_
       refine qm_n (by kernel_rfl) (by kernel_rfl) (by kernel_rfl) (by kernel_rfl) (kp [4,8] rfl) ?_
       refine r_sr (p_mv rfl rfl (p_not rfl rfl (o_keep (kp [4,46] rfl) (r_cond _ rfl (fun h8=>?_) (fun h8=>?_)))))
       ·simp at h8
       ·skip
        rw[hm] at hs
        simp only[Option.isSome_some,if_true] at hs
        refine r_skip (r_sr (p_as rfl rfl (o_keep (kp [4] rfl) ?_)))
        refine r_retv hF rfl (.c (.t rfl) .n) ?_ ?_
        ·rw[hs];refine Ent.c (marketP_xclose (t:={t with post:=takeL t.post xn}) lv ov ts p0 p1 p2 hts rfl rfl) ?_;apply eI;repeat constructor
        ·rw[hs];rfl
    ·skip
     have q4:¬ xk=4:=of_decide_eq_false h4
     refine r_sr (p_eql rfl rfl rfl (p_as rfl rfl (o_keep (kp [0,3,4,11,47] rfl) (r_cond _ rfl (fun h9=>?_) (fun h9=>?_)))))
     ·skip
      have q5:xk=5:=of_decide_eq_true h9
      have hs:=stepT_5 (t:=t) (x:=⟨xk,xn,xw⟩) q5
      dsimp only at hs
      refine r_seq (r_seq ?_)
      refine r_sel (marketP b t) ?_
      refine r_market fun lv ov ts p0 p1 p2 bv hts=>?_
      refine r_cat ?_
      refine r_rd bv fun hrb=>?_
      refine r_region (p_mv rfl rfl (p_nil rfl rfl (p_fa fa_73_3 rfl rfl (p_ldc tc_71 rfl (by rfl) rfl ?_))))
      refine l_op (x_p (pv_lens (Rd.len hrb) ⟨_,Tryz.underlying71⟩ (.n rfl) rfl rfl rfl rfl fR) rfl rfl (p_eql rfl rfl rfl (o_keep (kp [0,3,4,54] rfl) (r_cond _ rfl (fun h10=>?_) (fun h10=>?_)))))
      ·skip
       have h0:t.post.length=0:=by have:=of_decide_eq_true h10;omega
       rw[if_pos h0] at hs
       refine r_sr (p_as rfl rfl (o_keep (kp [0,3,4] rfl) ?_))
       refine r_retv hF rfl (.c (.t rfl) .n) ?_ ?_
       ·rw[hs];refine Ent.c (marketP_close (t:=t) lv ov ts p0 p1 p2 bv hts rfl rfl rfl rfl) ?_;apply eI;repeat constructor
       ·rw[hs];rfl
      ·skip
       have h0:¬ t.post.length=0:=by have:=of_decide_eq_false h10;omega
       rw[if_neg h0] at hs
       refine r_skip (r_seq (r_seq ?_))
       refine r_ent (mbox_close (b:=b) (l:=t.post) bv rfl rfl) ?_
       refine r_plan (_) ([mboxP b t.ws lv ov p0 p1 p2 t.post]) mo (kp [0,3,4] rfl) (SelX.ent) ?_
       refine yp 0 [.k 0] rfl rfl (by kernel_rfl) (u_mv rfl rfl rfl) (yp 1 [.o 0] rfl rfl (by kernel_rfl) (u_nil rfl rfl rfl) (yp 2 [.o 1] rfl rfl (by kernel_rfl) (u_fa fa_73_3 rfl rfl rfl) (yp 3 [.k 3] rfl rfl (by kernel_rfl) (u_fa fa_91_1 rfl rfl rfl) (yr 4 [.o 3] rfl rfl (by kernel_rfl) (fun He=>u_ldc tc_3 rfl rfl rfl (by rfl)) ?_))))
       refine qb_callc (i:=5) [.o 2,.o 4] (by kernel_rfl) (by kernel_rfl) rfl rfl rfl rfl (by kernel_rfl) (by kernel_rfl) (by kernel_rfl) ⟨_,.n rfl,rfl⟩ cf_73 rfl (.c rfl (.c rfl .n)) (mbox_Double _ b t.ws lv ov p0 p1 p2 t.post (by omega) xn) ?_
       refine yp 6 [.o 5] rfl rfl (by kernel_rfl) (pv_not (.n rfl) rfl rfl fR) ?_
       refine qm_n (by kernel_rfl) (by kernel_rfl) (by kernel_rfl) (by kernel_rfl) (kp [4,61] rfl) ?_
       refine r_cond _ rfl (fun h11=>?_) (fun h11=>?_)
       ·skip
        have hd:dblOk t.post=false:=by simpa using h11
        rw[if_neg (by rw[hd];simp)] at hs
        rw[dbl_no hd hfull]
        refine r_sr (p_as rfl rfl (o_keep (kp [4] rfl) ?_))
        refine r_retv hF rfl (.c (.t rfl) .n) ?_ ?_
        ·rw[hs];refine Ent.c (marketP_xclose (t:=t) lv ov ts p0 p1 p2 hts rfl rfl) ?_;apply eI;repeat constructor
        ·rw[hs];rfl
       ·skip
        have hd:dblOk t.post=true:=by simpa using h11
        rw[if_pos hd] at hs
        refine r_skip (r_sr (p_as rfl rfl (o_keep (kp [4] rfl) ?_)))
        refine r_retv hF rfl (.c (.t rfl) .n) ?_ ?_
        ·rw[hs];refine Ent.c (marketP_xclose (t:={t with post:=dblL t.post xn}) lv ov ts p0 p1 p2 hts rfl rfl) ?_;apply eI;repeat constructor
        ·rw[hs];rfl
     ·skip
      have q5:¬ xk=5:=of_decide_eq_false h9
      refine r_sr (p_eql rfl rfl rfl (p_as rfl rfl (o_keep (kp [0,3,4,11,62] rfl) (r_cond _ rfl (fun h12=>?_) (fun h12=>?_)))))
      ·skip
       have q6:xk=6:=of_decide_eq_true h12
       have hs:=stepT_6 (t:=t) (x:=⟨xk,xn,xw⟩) q6
       refine r_seq ?_
       refine r_sel (marketP b t) ?_
       refine r_marketB fun p0 p1 p2 bv=>?_
       refine r_plan (_) ([bookP b 73 (mkR t.ws p0 p1 p2 bv) t.b]) mo (kp [0,3] rfl) (SelX.ent) ?_
       refine yp 0 [.k 0] rfl rfl (by kernel_rfl) (u_mv rfl rfl rfl) (yp 1 [.o 0] rfl rfl (by kernel_rfl) (u_nil rfl rfl rfl) (yp 2 [.o 1] rfl rfl (by kernel_rfl) (u_fa fa_73_0 rfl rfl rfl) (yp 3 [.k 3] rfl rfl (by kernel_rfl) (u_fa fa_91_1 rfl rfl rfl) (yr 4 [.o 3] rfl rfl (by kernel_rfl) (fun He=>u_ldc tc_3 rfl rfl rfl (by rfl)) ?_))))
       refine qb_callc (i:=5) [.o 2,.o 4] (by kernel_rfl) (by kernel_rfl) rfl rfl rfl rfl (by kernel_rfl) (by kernel_rfl) (by kernel_rfl) ⟨_,.n rfl,rfl⟩ cf_74 rfl (.c rfl (.c rfl .n)) (book_Quit _ 73 (mkR t.ws p0 p1 p2 bv) b t.b hT.b xn) ?_
       refine yp 6 [.o 5] rfl rfl (by kernel_rfl) (u_as rfl rfl rfl) ?_
       refine qm_n (by kernel_rfl) (by kernel_rfl) (by kernel_rfl) (by kernel_rfl) (kp [4] rfl) ?_
       refine r_retv hF rfl (.c (.t rfl) .n) ?_ ?_
       ·rw[hs];refine Ent.c (marketP_bclose (t:={t with b:=(quitB t.b xn).1}) p0 p1 p2 bv rfl) ?_;apply eI;repeat constructor
       ·rw[hs];rfl
      ·skip
       have q6:¬ xk=6:=of_decide_eq_false h12
       refine r_sr (p_eql rfl rfl rfl (p_as rfl rfl (o_keep (kp [0,3,4,11,70] rfl) (r_cond _ rfl (fun h13=>?_) (fun h13=>?_)))))
       ·skip
        have q7:xk=7:=of_decide_eq_true h13
        have hs:=stepT_7 (t:=t) (x:=⟨xk,xn,xw⟩) q7
        dsimp only at hs
        refine r_seq (r_sr (p_fa fa_91_1 rfl rfl (p_ldc tc_3 rfl (by rfl) rfl ?_)))
        refine p_lss rfl rfl rfl (p_mv rfl rfl (l_op (x_p (pv_fa fa_91_1 (.s rfl rfl rfl) rfl rfl gA) rfl rfl (l_op (x_r (q_ldc tc_3 (.s rfl rfl rfl) rfl rfl gA (by rfl)) rfl rfl ?_)))))
        refine l_op (x_p (pv_geq (.s rfl rfl rfl) rfl rfl rfl gB) rfl rfl ?_)
        refine l_op (x_p (pv_or (.n rfl) rfl rfl rfl (fun _=>⟨rfl,fun hc=>by first|rfl|(rw[hc];rfl)|simp_all⟩)) rfl rfl ?_)
        refine o_keep (kp [0,3,4,79] rfl) (r_cond _ rfl (fun h14=>?_) (fun h14=>?_))
        ·skip
         have hsh:xn<0∨3≤xn:=by simp at h14;omega
         rw[if_pos hsh] at hs
         refine r_sr (p_as rfl rfl (o_keep (kp [0,3,4] rfl) ?_))
         refine r_retv hF rfl (.c (.t rfl) .n) ?_ ?_
         ·rw[hs];refine Ent.c (SelX.ent) ?_;apply eI;repeat constructor
         ·rw[hs];rfl
        ·skip
         have hsh:¬ (xn<0∨3≤xn):=by simp at h14;omega
         obtain⟨i,hsi⟩:∃ i:Nat,xn=(i:Int):=⟨xn.toNat,by omega⟩
         have hi3:i<3:=by omega
         obtain⟨k,hk3⟩:=getlt (l:=t.ks) (i:=i) (by omega)
         obtain⟨hK,hkn,hkw⟩:=hT.k i k hk3
         rw[if_neg hsh,show xn.toNat=i by omega,hk3] at hs
         dsimp only at hs
         rw[hK.crash.1,set_selfE hk3] at hs
         refine r_skip (r_seq ?_)
         refine r_sel (marketP b t) ?_
         refine r_market fun lv ov ts p0 p1 p2 bv hts=>?_
         refine r_cat ?_
         refine r_plan _ [] mo (kp [0,3,4] rfl) Ent.rfl ?_
         refine yp 0 [.k 0] rfl rfl (by kernel_rfl) (u_mv rfl rfl rfl) (yp 1 [.k 3] rfl rfl (by kernel_rfl) (u_fa fa_91_1 rfl rfl rfl) (yr 2 [.o 1] rfl rfl (by kernel_rfl) (fun He=>u_ldc tc_3 rfl rfl rfl (by rfl)) ?_))
         refine yp 3 [.o 0] rfl rfl (by kernel_rfl) (u_nil rfl rfl rfl) (yp 4 [.o 3] rfl rfl (by kernel_rfl) (u_fa fa_73_2 rfl rfl rfl) (yp 5 [.o 4,.o 2] rfl rfl (by kernel_rfl) (pv_aidx (i:=i) Tryz.underlying69 (.ofC tc_68) (fun hg=>⟨hsi,hi3⟩) (.n rfl) rfl rfl rfl fS) ?_))
         refine yr 6 [.o 5] rfl rfl (by kernel_rfl) (fun He=>q_ldci (i:=8+i) tc_68 (.n rfl) rfl rfl fR (by omega) (mk_cell hi3)) ?_
         refine yp 7 [.o 6] rfl rfl (by kernel_rfl) (u_as rfl rfl rfl) ?_
         refine qm_n (by kernel_rfl) (by kernel_rfl) (by kernel_rfl) (by kernel_rfl) (kp [0,3,4,9] rfl) ?_
         refine r_seq ?_
         refine r_many (P:=penP) (bs:=[p0,p1,p2]) i (cAt_get hi3) hk3 ?_
         refine r_ex2 fun bb lq=>?_
         refine r_cat ?_
         refine r_rd lq fun hrq=>?_
         refine r_plan _ [] mo (kp [0,3,4,9] rfl) Ent.rfl ?_
         refine yp 0 [.k 9] rfl rfl (by kernel_rfl) (u_mv rfl rfl rfl) (yp 1 [.k 3] rfl rfl (by kernel_rfl) (u_fa fa_91_1 rfl rfl rfl) (yr 2 [.o 1] rfl rfl (by kernel_rfl) (fun He=>u_ldc tc_3 rfl rfl rfl (by rfl)) ?_))
         refine yp 3 [.k 0] rfl rfl (by kernel_rfl) (u_mv rfl rfl rfl) (yp 4 [.o 3] rfl rfl (by kernel_rfl) (u_nil rfl rfl rfl) (yp 5 [.o 4] rfl rfl (by kernel_rfl) (u_fa fa_73_1 rfl rfl rfl) (yr 6 [.o 5] rfl rfl (by kernel_rfl) (fun He=>q_lda ta_38 (.n rfl) rfl rfl fR (by exact (.s (.s (.s (.s (.s (.s .z)))))))) ?_)))
         refine yp 7 [.k 9] rfl rfl (by kernel_rfl) (u_mv rfl rfl rfl) (yp 8 [.o 7] rfl rfl (by kernel_rfl) (u_nil rfl rfl rfl) (yp 9 [.o 8] rfl rfl (by kernel_rfl) (u_fa fa_110_1 rfl rfl rfl) (yr 10 [.o 9] rfl rfl (by kernel_rfl) (fun He=>u_ldc tc_108 rfl rfl rfl (by rfl)) ?_)))
         refine qm_calln (i:=11) [.o 2,.o 6,.o 10] (by kernel_rfl) (by kernel_rfl) rfl rfl rfl rfl (by kernel_rfl) (by kernel_rfl) ⟨_,.n rfl,rfl⟩ cf_75 rfl (.c rfl (.c rfl (.c rfl .n))) (ref_Replayed_some _ [sl lq 181 5 (k.l.map rR)] xn (w6 t.ws) rfl lq k.l (Rd.ent hrq SelS.ent) (by have:=hK.l_le;omega) (by have:=hK.rep6;rwa [hkn,hkw,← hsi] at this)) fun x=>?_
         refine qm_cat ?_
         refine qm_keep ?_
         refine yp 12 [.o 11] rfl rfl (by kernel_rfl) (u_mv rfl rfl rfl) (yp 13 [.o 12] rfl rfl (by kernel_rfl) (u_ext rfl rfl rfl rfl) (yp 14 [.o 12] rfl rfl (by kernel_rfl) (u_ext rfl rfl rfl rfl) (yp 15 [.o 0] rfl rfl (by kernel_rfl) (u_nil rfl rfl rfl) (yp 16 [.o 15] rfl rfl (by kernel_rfl) (u_fa fa_110_0 rfl rfl rfl) ?_))))
         refine qx_store (ex:=[14]) (.ofC tc_107) (i:=17) [.o 16,.o 13] (by kernel_rfl) (by kernel_rfl) rfl rfl rfl (by kernel_rfl) (by kernel_rfl) (by kernel_rfl) ⟨_,.n rfl,rfl⟩ (exOne (l:=[.o 12]) rfl rfl rfl rfl (by kernel_rfl) rfl (fun He=>PV.rq (u_ext rfl rfl rfl rfl))) rfl rfl rfl rfl rfl rfl (by repeat constructor) ?_
         refine qm_n (by kernel_rfl) (by kernel_rfl) (by kernel_rfl) (by kernel_rfl) (kp [4] rfl) ?_
         refine r_sr (p_as rfl rfl (o_keep (kp [4] rfl) ?_))
         refine r_retv hF rfl (.c (.t rfl) .n) ?_ ?_
         ·rw[hs];refine Ent.tr (penP_close (b:=cAt p0 p1 p2 i) (k:=k) x lq rfl rfl) ?_;refine Ent.tr (Ent.mono (SelX.ent (X:=restP penP [p0,p1,p2] t.ks i))) ?_;refine Ent.tr (many_back (cAt_get hi3) hk3) ?_;refine Ent.c (marketP_close (t:=t) lv ov ts p0 p1 p2 bv hts rfl rfl rfl rfl) ?_;apply eI;repeat constructor
         ·rw[hs];rfl
       ·skip
        have q7:¬ xk=7:=of_decide_eq_false h13
        refine r_sr (p_eql rfl rfl rfl (p_as rfl rfl (o_keep (kp [0,4,104] rfl) (r_cond _ rfl (fun h15=>?_) (fun h15=>?_)))))
        ·skip
         have q8:xk=8:=of_decide_eq_true h15
         have hs:=stepT_8 (t:=t) (x:=⟨xk,xn,xw⟩) q8
         refine r_seq ?_
         refine r_sel (marketP b t) ?_
         refine r_marketB fun p0 p1 p2 bv=>?_
         refine r_region (p_mv rfl rfl (p_nil rfl rfl (p_fa fa_73_0 rfl rfl ?_)))
         refine p_callc cf_76 (.c rfl .n) rfl (book_Crash _ 73 (mkR t.ws p0 p1 p2 bv) b t.b hT.b) ?_
         refine o_keep (kp [4] rfl) (r_sr (p_as rfl rfl (o_keep (kp [4] rfl) ?_)))
         refine r_retv hF rfl (.c (.t rfl) .n) ?_ ?_
         ·rw[hs];refine Ent.c (marketP_bclose (t:={t with b:=crashB t.b}) p0 p1 p2 bv rfl) ?_;apply eI;repeat constructor
         ·rw[hs];rfl
        ·skip
         have q8:¬ xk=8:=of_decide_eq_false h15
         have hs:=stepT_9 (t:=t) (x:=⟨xk,xn,xw⟩) q1 q2 (by dsimp only;omega) q6 q7 q8
         refine r_skip (r_end (r_sr (p_as rfl rfl (o_keep (kp [4] rfl) ?_))))
         refine r_retv hF rfl (.c (.t rfl) .n) ?_ ?_
         ·rw[hs];refine Ent.c (SelX.ent) ?_;apply eI;repeat constructor
         ·rw[hs];rfl
end Go.Proofs.YtmakdilmibjpbaaGreatDoor
