/- The walks of RefC: written by a program of ours (gen.py) over the engine. The walks of DeskDoes: written by a program of ours (gen.py) over the engine. -/
import Derived.Test.YtmakdilmibjpbaaGreatDoorWants
import Derived.Test.YtmakdilmibjpbaaGreatDoorFacts
import Derived.Test.YtmakdilmibjpbaaGreatDoorRefB
namespace Go.Proofs.YtmakdilmibjpbaaGreatDoor
open Go Go.RowKit
set_option linter.unusedVariables false
set_option linter.unusedSimpArgs false
set_option maxRecDepth 20000
theorem rdk_Do (M:Amb)(L:LibOk M)(b mb:Nat)(u0:List UInt8)(t:TownS)(hD:DInv t)(v:Value)(l:List (List UInt8))(hv:Rd M [] v 1 (l.map rS))(hb:l.length≤1000)(hs:∀ s∈l,s.length≤20000):FnC Tryz.prog M 10 [ptr b,v] (str (linesT t l).2) [blk b [str (u0),ptr mb] 50,marketP mb t] [blk b [str ((linesT t l).2),ptr mb] 50,marketP mb (linesT t l).1]:=by
 refine fnc_intro Tryz.func10 rfl Tryz.ntmps10 rfl fun R F hF=>?_
 refine r_cat ?_
 refine r_sr (p_as rfl rfl (o_keep (kp [0,1,4] rfl) (r_sr (p_mv rfl rfl (p_nil rfl rfl (p_fa fa_50_0 rfl rfl ?_))))))
 refine p_store (.ofC tc_9) rfl rfl rfl rfl rfl (by repeat constructor) ?_
 refine o_keep (kp [0,1,4] rfl) (r_seq (r_sr (p_as rfl rfl (o_keep (kp [0,1,4,5] rfl) (r_block ?_)))))
 refine r_loop_3 (fun (j:Nat) (u:List UInt8) (t1:TownS)=>[(5,true,.int .i64 (j:Int))]) (kp [0,1,4] rfl) (fun (j:Nat) (u:List UInt8) (t1:TownS)=>blk b [str (u),ptr mb] 50::marketP mb t1::R) (fun (j:Nat) (u:List UInt8) (t1:TownS)=>j≤l.length∧linesT t (l.take j)=(t1,u)) (fun (j:Nat) (u:List UInt8) (t1:TownS)=>l.length - j) (0) ([]) (t) ?_ (kp [5] rfl) ?_ (fun j u t1 hI=>?_)
 ·exact⟨Nat.zero_le _,rfl⟩
 ·apply eI;repeat constructor
 ·skip
  obtain⟨hj0,hE⟩:=hI
  have hD1:DInv t1:=by have:=DInv.lines (l:=l.take j) hD;rw[hE] at this;exact this
  have hul:u.length≤10000*j:=by have:=linesT_len (l.take j) hD;rw[hE,List.length_take] at this;exact Nat.le_trans this (by omega)
  refine r_seq (r_sr (p_mv rfl rfl (p_mv rfl rfl (l_op (x_p (pv_lens (Rd.len hv) ⟨_,Tryz.underlying22⟩ (.n rfl) rfl rfl rfl rfl fR) rfl rfl (p_lss rfl rfl rfl (o_keep (kp [0,1,4,5,12] rfl) (r_cond _ rfl (fun h1=>?_) (fun h1=>?_)))))))))
  ·skip
   obtain⟨z,hz⟩:=getlt (l:=l) (i:=j) (by have:=of_decide_eq_true h1;omega)
   have hjl:=(List.getElem?_eq_some_iff.1 hz).1
   have htk:=linesT_take hz t
   rw[hE] at htk
   refine r_skip (r_seq (r_block (r_region (p_mv rfl rfl (p_mv rfl rfl (p_mv rfl rfl (p_idx Tryz.underlying22 (.ofC tc_9) hv rfl (mapget hz) rfl rfl rfl ?_)))))))
   refine p_ldat 0 tc_9 (Rd.ent hv (eJ (by repeat constructor))) (mapget hz) rfl rfl rfl rfl ?_
   refine p_callc cf_18 (.c rfl (.c rfl .n)) rfl (rdk_line _ L b mb u t1 hD1 z (hs z (List.mem_of_getElem? hz)) (by omega)) ?_
   refine o_keep (kp [0,1,4,5] rfl) (r_end (r_region (p_mv rfl rfl (p_add rfl rfl (by omega) rfl (p_as rfl rfl (o_keep (kp [0,1,4,5] rfl) ?_))))))
   refine r_back_3 (j+1) (u++(lineT t1 z).2) ((lineT t1 z).1) ?_ ?_ (Keep.app (kp [5] rfl) (kp [0,1,4] rfl)) ?_
   ·exact⟨by omega,htk⟩
   ·omega
   ·apply eI;repeat constructor
  ·skip
   have hjl:l.length≤j:=by have:=of_decide_eq_false h1;omega
   rw[List.take_of_length_le hjl] at hE
   refine r_exit rfl (r_sr (p_mv rfl rfl (p_nil rfl rfl (p_fa fa_50_0 rfl rfl (p_ldc tc_9 rfl (by rfl) rfl ?_)))))
   refine p_as rfl rfl (o_keep (kp [4] rfl) ?_)
   refine r_retv hF rfl (.c (.t rfl) .n) ?_ ?_
   ·rw[hE];apply eI;repeat constructor
   ·rw[hE];rfl
theorem ref_NewDesk (M:Amb) :FnE (α:=Nat×Nat) Tryz.prog M 7 [] [] (fun x=>ptr x.1) (fun x=>[blk x.1 [str [],ptr x.2] 50,marketP x.2 tn0]):=by
 refine fne_intro Tryz.func7 rfl Tryz.ntmps7 rfl fun R F hF=>?_
 refine r_cat ?_
 refine r_sr (p_as rfl rfl (o_keep (kp [0] rfl) (r_sr (p_alloc zr_38 rfl fun b1=>?_))))
 refine o_keep (kp [0,1] rfl) (r_seq (r_sr (p_as rfl rfl (o_keep (kp [0,1,2] rfl) (r_block ?_)))))
 refine r_loop_2 (fun (i:Nat) (vs:List Int)=>[(2,true,.int .i64 (i:Int))]) (kp [0,1] rfl) (fun (i:Nat) (vs:List Int)=>blk b1 (vs.map vI) 38::R) (fun (i:Nat) (vs:List Int)=>i≤6∧vs.length=6∧∀ j:Nat,j<i→vs.getD j 0=hw.getD j 0) (fun (i:Nat) (vs:List Int)=>6 - i) (0) ([0,0,0,0,0,0]) ?_ (kp [2] rfl) ?_ (fun i vs hI=>?_)
 ·exact⟨Nat.zero_le _,rfl,fun j hj=>by omega⟩
 ·apply eI;repeat constructor
 ·skip
  obtain⟨hi0,hvl,hv⟩:=hI
  refine r_seq (r_sr (p_mv rfl rfl (p_lss rfl rfl rfl (o_keep (kp [0,1,2,4] rfl) (r_cond _ rfl (fun h1=>?_) (fun h1=>?_))))))
  ·skip
   have hi6:i<6:=by have:=of_decide_eq_true h1;omega
   have h50:(50:Int)=hw.getD i 0:=by rcases (show i=0∨i=1∨i=2∨i=3∨i=4∨i=5 by omega) with rfl|rfl|rfl|rfl|rfl|rfl<;>rfl
   refine r_skip (r_seq (r_block (r_region (p_mv rfl rfl (l_op (x_p (pv_aidx (i:=i) Tryz.underlying38 (.ofC tc_3) (fun hg=>⟨rfl,hi6⟩) (.n rfl) rfl rfl rfl fS) rfl rfl ?_))))))
   refine p_store (.ofC tc_3) rfl rfl rfl rfl rfl (Ins.atm' (f:=vI) (i:=i) (by omega) (by omega)) ?_
   refine o_keep (kp [0,1,2] rfl) (r_end (r_region (p_mv rfl rfl (p_add rfl rfl (by omega) rfl (p_as rfl rfl (o_keep (kp [0,1,2] rfl) ?_))))))
   refine r_back_2 (i+1) (vs.set i 50) ?_ ?_ (Keep.app (kp [2] rfl) (kp [0,1] rfl)) ?_
   ·exact⟨by omega,by simp;omega,fun j hj=>wset (n:=i) (fun j hj=>hv j (by omega)) (by omega) h50 j (by omega)⟩
   ·omega
   ·apply eI;repeat constructor
  ·skip
   have hi6:i=6:=by have:=of_decide_eq_false h1;omega
   have hvW:vs=hw:=wext hvl rfl fun j hj=>hv j (by omega)
   subst hvW
   refine r_exit rfl (r_sr ?_)
   refine p_lda ta_38 rfl (Tk.all rfl) rfl ?_
   refine p_calle cf_12 (.c rfl .n) rfl (market_New_some _ hw rfl tn0_new) fun mb=>?_
   refine o_cat ?_
   refine p_build zr_50 pl_50 (.c rfl fR rfl rfl rfl (by repeat constructor) .n) rfl ?_
   refine p_box rfl rfl rfl fun b12=>?_
   refine p_as rfl rfl (o_keep (kp [0] rfl) ?_)
   refine r_rete ((b12,mb)) hF rfl (.c (.t rfl) .n) ?_ ?_
   ·refine Ent.catI ?_;apply eI;repeat constructor
   ·rfl
theorem nl_in{z:List UInt8}{k:Nat}{c:UInt8}(h:z[k]?=some c)(hc:(c.toNat:Int)=10):z.contains 10=true:=by
  have:c=10:=UInt8.toNat_inj.1 (by show c.toNat=10;omega)
  subst this
  simpa using List.mem_of_getElem? h
theorem nl_out{z:List UInt8}(h:∀ (k:Nat) c,k<z.length→z[k]?=some c→¬ (c.toNat:Int)=10):z.contains 10=false:=by
  rw[Bool.eq_false_iff]
  intro hc
  have hm:(10:UInt8)∈z:=by simpa using hc
  obtain⟨k,hk,e⟩:=List.mem_iff_getElem.1 hm
  exact h k 10 hk (by rw[← e];exact List.getElem?_eq_getElem hk) rfl
theorem nl_ext{z:List UInt8}{k:Nat}{c:UInt8}(h:∀ (j:Nat) c,j<k→z[j]?=some c→¬ (c.toNat:Int)=10)(hz:z[k]?=some c)(hc:¬ (c.toNat:Int)=10):∀ (j:Nat) c,j<k+1→z[j]?=some c→¬ (c.toNat:Int)=10:=fun j d hj hd=>by
  rcases Nat.lt_succ_iff_lt_or_eq.1 hj with h1|rfl
  · exact h j d h1 hd
  · rw[hz] at hd;cases hd;exact hc
theorem ref_LinesFault (M:Amb)(H:List HP)(v:Value)(l:List (List UInt8))(hv:Rd M H v 1 (l.map rS))(hb:l.length≤1000)(hs:∀ s∈l,s.length≤20000):FnV Tryz.prog M H 9 [v] (.agg #[.int .i64 (linesF l).1,.int .i64 (linesF l).2]):=by
 refine fn_intro Tryz.func9 rfl Tryz.ntmps9 rfl fun F hF=>?_
 refine r_sr (p_alloc zr_31 rfl fun b2=>?_)
 refine o_keep (kp [0,2] rfl) (r_seq (r_sr (p_mv rfl rfl (l_op (x_p (pv_lens (Rd.len hv) ⟨_,Tryz.underlying22⟩ (.n rfl) rfl rfl rfl rfl fR) rfl rfl (p_gtr rfl rfl rfl (o_keep (kp [0,2,7] rfl) (r_cond _ rfl (fun h1=>?_) (fun h1=>?_)))))))))
 ·skip
  have hlf:=linesF_many (l:=l) (by have:=of_decide_eq_true h1;omega)
  refine r_sr ?_
  refine p_callv cf_17 (.c rfl (.c rfl .n)) rfl (ref_F _ _ 3 (-1)) ?_
  refine p_store (.ofA ta_31) rfl rfl rfl (by first|rfl|exact rfl) (by first|rfl|exact rfl) (Ins.whole (by simp[*])) ?_
  refine o_keep (.c 0 rfl (.c 2 rfl .n)) ?_
  refine r_retv hF rfl (.c (.a rfl ta_31 (.blk (SelB.ent) (Tk.all rfl)) rfl) .n) ?_ ?_
  ·apply eI;repeat constructor
  ·rw[hlf];rfl
 ·skip
  have hmn:¬ 150<l.length:=by have:=of_decide_eq_false h1;omega
  refine r_skip (r_seq (r_sr (p_as rfl rfl (o_keep (kp [0,2,3] rfl) (r_block ?_)))))
  refine r_loop_1 (fun (i:Nat)=>[(3,true,.int .i64 (i:Int))]) (kp [0,2] rfl) (fun (i:Nat)=>blk b2 [.int .i64 0,.int .i64 0] 31::H) (fun (i:Nat)=>i≤l.length∧∀ (j:Nat) y,j<i→l[j]?=some y→y.contains 10=false) (fun (i:Nat)=>l.length - i) (0) ?_ (kp [3] rfl) ?_ (fun i hI=>?_)
  ·exact⟨Nat.zero_le _,fun j y hj=>by omega⟩
  ·apply eI;repeat constructor
  ·skip
   obtain⟨hi0,hN⟩:=hI
   refine r_seq (r_sr (p_mv rfl rfl (p_mv rfl rfl (l_op (x_p (pv_lens (Rd.len hv) ⟨_,Tryz.underlying22⟩ (.n rfl) rfl rfl rfl rfl fR) rfl rfl (p_lss rfl rfl rfl (o_keep (kp [0,2,3,12] rfl) (r_cond _ rfl (fun h2=>?_) (fun h2=>?_)))))))))
   ·skip
    obtain⟨z,hz⟩:=getlt (l:=l) (i:=i) (by have:=of_decide_eq_true h2;omega)
    have hil:=(List.getElem?_eq_some_iff.1 hz).1
    have hzl:=hs z (List.mem_of_getElem? hz)
    refine r_skip (r_seq (r_block (r_sr (p_as rfl rfl (o_keep (kp [0,2,3,4] rfl) (r_block ?_))))))
    refine r_loop_1 (fun (k:Nat)=>[(4,true,.int .i64 (k:Int))]) (kp [0,2,3] rfl) (fun (k:Nat)=>blk b2 [.int .i64 0,.int .i64 0] 31::H) (fun (k:Nat)=>k≤z.length∧∀ (j:Nat) c,j<k→z[j]?=some c→¬ (c.toNat:Int)=10) (fun (k:Nat)=>z.length - k) (0) ?_ (kp [4] rfl) ?_ (fun k hI=>?_)
    ·exact⟨Nat.zero_le _,fun j c hj=>by omega⟩
    ·apply eI;repeat constructor
    ·skip
     obtain⟨hk0,hK⟩:=hI
     refine r_seq (r_sr (p_mv rfl rfl (p_mv rfl rfl (p_mv rfl rfl (p_idx Tryz.underlying22 (.ofC tc_9) hv rfl (mapget hz) rfl rfl rfl (p_ldat 0 tc_9 (Rd.ent hv (eJ (by repeat constructor))) (mapget hz) rfl rfl rfl rfl ?_))))))
     refine l_op (x_p (pv_slen Tryz.underlying9 (.n rfl) rfl rfl rfl rfl fR) rfl rfl (p_lss rfl rfl rfl (o_keep (kp [0,2,3,4,21] rfl) (r_cond _ rfl (fun h3=>?_) (fun h3=>?_)))))
     ·skip
      obtain⟨c,hc⟩:=getlt (l:=z) (i:=k) (by have:=of_decide_eq_true h3;omega)
      have hkl:=(List.getElem?_eq_some_iff.1 hc).1
      refine r_skip (r_seq (r_block (r_sr (p_mv rfl rfl (p_mv rfl rfl (p_idx Tryz.underlying22 (.ofC tc_9) hv rfl (mapget hz) rfl rfl rfl (p_ldat 0 tc_9 (Rd.ent hv (eJ (by repeat constructor))) (mapget hz) rfl rfl rfl rfl ?_)))))))
      refine p_mv rfl rfl (l_op (x_p (pv_sidx (i:=k) Tryz.underlying9 (fun hg=>rfl) (fun hg=>hc) (.n rfl) rfl rfl rfl fS) rfl rfl (p_eql rfl rfl rfl (o_keep (kp [0,2,3,4,30] rfl) (r_cond _ rfl (fun h4=>?_) (fun h4=>?_))))))
      ·skip
       have hc10:(c.toNat:Int)=10:=of_decide_eq_true h4
       have hlf:=linesF_at hmn hz (nl_in hc hc10) hN
       refine r_sr (p_mv rfl rfl ?_)
       refine p_callv cf_17 (.c rfl (.c rfl .n)) rfl (ref_F _ _ 12 (i:Int)) ?_
       refine p_store (.ofA ta_31) rfl rfl rfl (by first|rfl|exact rfl) (by first|rfl|exact rfl) (Ins.whole (by simp[*])) ?_
       refine o_keep (.c 0 rfl (.c 2 rfl (.c 3 rfl (.c 4 rfl .n)))) ?_
       refine r_retv hF rfl (.c (.a rfl ta_31 (.blk (SelB.ent) (Tk.all rfl)) rfl) .n) ?_ ?_
       ·apply eI;repeat constructor
       ·rw[hlf];rfl
      ·skip
       have hK2:=nl_ext hK hc (of_decide_eq_false h4)
       refine r_skip (r_end (r_region (p_mv rfl rfl (p_add rfl rfl (by omega) rfl (p_as rfl rfl (o_keep (kp [0,2,3,4] rfl) ?_))))))
       refine r_back_1 (k+1) ?_ ?_ (Keep.app (kp [4] rfl) (kp [0,2,3] rfl)) ?_
       ·exact⟨by omega,hK2⟩
       ·omega
       ·apply eI;repeat constructor
     ·skip
      have hkl:z.length≤k:=by have:=of_decide_eq_false h3;omega
      have hN2:=nl_step hN hz (nl_out fun j c hj=>hK j c (by omega))
      refine r_exit rfl (r_end (r_region (p_mv rfl rfl (p_add rfl rfl (by omega) rfl (p_as rfl rfl (o_keep (kp [0,2,3] rfl) ?_))))))
      refine r_back_1 (i+1) ?_ ?_ (Keep.app (kp [3] rfl) (kp [0,2] rfl)) ?_
      ·exact⟨by omega,hN2⟩
      ·omega
      ·apply eI;repeat constructor
   ·skip
    have hil:l.length≤i:=by have:=of_decide_eq_false h2;omega
    have hlf:=linesF_ok hmn (fun j y hj=>hN j y (by omega))
    refine r_exit rfl (r_sr ?_)
    refine p_build zr_31 pl_31 (.n) rfl ?_
    refine p_store (.ofA ta_31) rfl rfl rfl rfl rfl (Ins.whole rfl) ?_
    refine o_keep (kp [2] rfl) ?_
    refine r_retv hF rfl (.c (.a rfl ta_31 (.blk (SelB.ent) (Tk.all rfl)) rfl) .n) ?_ ?_
    ·apply eI;repeat constructor
    ·rw[hlf];rfl
end Go.Proofs.YtmakdilmibjpbaaGreatDoor
namespace Go.Proofs.YtmakdilmibjpbaaGreatDoor
open Go Go.RowKit
set_option linter.unusedVariables false
set_option linter.unusedSimpArgs false
set_option maxRecDepth 20000
theorem law_DeskDoes (M:Amb)(H:List HP)(L:LibOk M)(v:Value)(l:List (List UInt8))(hv:Rd M [] v 1 (l.map rS))(hb:∀ s∈l,s.length≤140737488355328)(v2:Value)(l2:List (List UInt8))(hv2:Rd M [] v2 1 (l2.map rS))(hb2:∀ s∈l2,s.length≤140737488355328):FnV Tryz.prog M H 3 [v,v2] (.bool true):=by
 refine fn_intro Tryz.func3 rfl Tryz.ntmps3 rfl fun F hF=>?_
 refine r_sr (p_as rfl rfl (o_keep (kp [0,1,4] rfl) (r_seq (r_sr ?_))))
 refine p_callv cf_4 (.n) rfl (law_begun _ _ L) ?_
 refine p_not rfl rfl (o_keep (kp [0,1,4,13] rfl) (r_cond _ rfl (fun h1=>?_) (fun h1=>?_)))
 ·simp at h1
 ·skip
  refine r_skip (r_seq (r_sr (p_mv rfl rfl (l_op (x_p (pv_lens (Rd.len hv) ⟨_,Tryz.underlying22⟩ (.n rfl) rfl rfl rfl rfl fR) rfl rfl (p_gtr rfl rfl rfl (p_mv rfl rfl (l_op (x_p (pv_mv (.s rfl rfl rfl) rfl rfl gA) rfl rfl ?_)))))))))
  refine l_op (x_p (pv_lens (Rd.len hv2) ⟨_,Tryz.underlying22⟩ (.s rfl rfl rfl) rfl rfl rfl rfl gA) rfl rfl ?_)
  refine l_op (x_p (pv_gtr (.s rfl rfl rfl) rfl rfl rfl gB) rfl rfl ?_)
  refine l_op (x_p (pv_or (.n rfl) rfl rfl rfl (fun _=>⟨rfl,fun hc=>by first|rfl|(rw[hc];rfl)|simp_all⟩)) rfl rfl ?_)
  refine p_mv rfl rfl (l_op (x_p (pv_mv (.s rfl rfl rfl) rfl rfl gA) rfl rfl ?_))
  refine l_op (x_q (rq_call cf_5 (.s rfl rfl rfl) rfl (.c rfl gA .n) (fun hg=>law_slow _ _ _ l hv.all (by simp at hg;omega) hb)) rfl rfl ?_)
  refine l_op (x_p (pv_or (.n rfl) rfl rfl rfl (fun _=>⟨rfl,fun hc=>by first|rfl|(rw[hc];rfl)|simp_all⟩)) rfl rfl ?_)
  refine p_mv rfl rfl (l_op (x_p (pv_mv (.s rfl rfl rfl) rfl rfl gA) rfl rfl ?_))
  refine l_op (x_q (rq_call cf_5 (.s rfl rfl rfl) rfl (.c rfl gA .n) (fun hg=>law_slow _ _ _ l2 hv2.all (by simp at hg;omega) hb2)) rfl rfl ?_)
  refine l_op (x_p (pv_or (.n rfl) rfl rfl rfl (fun _=>⟨rfl,fun hc=>by first|rfl|(rw[hc];rfl)|simp_all⟩)) rfl rfl ?_)
  refine o_keep (kp [0,1,4,29] rfl) (r_cond _ rfl (fun h2=>?_) (fun h2=>?_))
  ·skip
   refine r_sr (p_as rfl rfl (o_keep (kp [0,1,4] rfl) ?_))
   refine r_retv hF rfl (.c (.t rfl) .n) ?_ ?_
   ·apply eI;repeat constructor
   ·rfl
  ·skip
   have hL:(l.length≤200∧l2.length≤200)∧slowL l=false∧slowL l2=false:=by simp at h2;exact⟨⟨by omega,by omega⟩,by simp[h2],by simp[h2]⟩
   obtain⟨⟨hL1,hL2⟩,hs1,hs2⟩:=hL
   refine r_skip (r_sr ?_)
   refine p_calle cf_6 (.n) rfl (desk_New _) fun dx=>?_
   refine o_cat ?_
   refine p_as rfl rfl (o_keep (kp [0,1,4,5] rfl) (r_sr ?_))
   refine p_calle cf_7 (.n) rfl (ref_NewDesk _) fun rx=>?_
   refine o_cat ?_
   refine p_as rfl rfl (o_keep (kp [0,1,4,5,6] rfl) (r_sr (p_mv rfl rfl (p_mv rfl rfl ?_))))
   refine p_bsl Tryz.underlying29 (.ofC tc_22) zr_22 (.c rfl hv.c1 (by simpa using hv.o1) (.c rfl hv2.c1 (by simpa using hv2.o1) .n)) (rows:=[[v],[v2]]) rfl rfl rfl rfl fun b34 hr34=>?_
   refine p_as rfl rfl (o_keep (kp [4,5,6,7] rfl) (r_seq (r_sr (p_as rfl rfl (o_keep (kp [4,5,6,7,8] rfl) (r_block ?_))))))
   refine r_loop_3 (fun (i:Nat) (t:TownS) (u:List UInt8)=>[(8,true,.int .i64 (i:Int))]) (kp [4,5,6,7] rfl) (fun (i:Nat) (t:TownS) (u:List UInt8)=>bdI dx.1 dx.2::townP dx.2 t::blk rx.1 [str u,ptr rx.2] 50::marketP rx.2 t::sl (.slice (some ⟨b34,0,Option.none⟩) 2 2) 22 1 [[v],[v2]]::H) (fun (i:Nat) (t:TownS) (u:List UInt8)=>i≤2∧DInv t) (fun (i:Nat) (t:TownS) (u:List UInt8)=>2 - i) (0) (tn0) ([]) ?_ (kp [8] rfl) ?_ (fun i t u hI=>?_)
   ·exact⟨by omega,tn0_inv⟩
   ·apply eI;repeat constructor
   ·skip
    obtain⟨hi0,hD⟩:=hI
    have hDd:=fun m=>DInv.doS (l:=m) hD
    refine r_seq (r_sr (p_mv rfl rfl (p_lss rfl rfl rfl (o_keep (kp [4,5,6,7,8,36] rfl) (r_cond _ rfl (fun h3=>?_) (fun h3=>?_))))))
    ·skip
     have hi2:i<2:=by have:=of_decide_eq_true h3;omega
     obtain⟨x,m,hxi,hm,hml,hms⟩:∃ (x:Value) (m:List (List UInt8)),([[v],[v2]]:List (List Value))[i]?=some [x]∧Rd M [] x 1 (m.map rS)∧m.length≤200∧∀ s∈m,s.length≤20000:=by rcases (show i=0∨i=1 by omega) with rfl|rfl;exact⟨v,l,rfl,hv,hL1,slowA_no hs1⟩;exact⟨v2,l2,rfl,hv2,hL2,slowA_no hs2⟩
     refine r_skip (r_seq (r_block (r_sr (p_mv rfl rfl (p_mv rfl rfl (p_mv rfl rfl ?_))))))
     refine p_idx Tryz.underlying29 (.ofC tc_22) (Rd.ent hr34 (eJ (by repeat constructor))) rfl hxi rfl rfl rfl ?_
     refine p_ldat 0 tc_22 (Rd.ent (Rd.ent hr34 (eJ (by repeat constructor))) (eJ (by repeat constructor))) hxi rfl rfl rfl rfl ?_
     refine p_callc cf_8 (.c rfl (.c rfl .n)) rfl (desk_Do _ L dx.1 dx.2 t hD _ m hm (by omega) hms) ?_
     refine p_mv rfl rfl (p_ext rfl rfl rfl (p_ext rfl rfl rfl (p_alloc zr_31 rfl fun b10=>?_)))
     refine p_as rfl rfl ?_
     refine p_store (.ofA ta_31) rfl rfl rfl (by first|rfl|exact rfl) (by first|rfl|exact rfl) (Ins.whole (by simp[*])) ?_
     refine o_keep (.c 4 rfl (.c 5 rfl (.c 6 rfl (.c 7 rfl (.c 8 rfl (.c 9 rfl (.c 10 rfl .n))))))) (r_sr (p_mv rfl rfl (p_mv rfl rfl ?_)))
     refine p_idx Tryz.underlying29 (.ofC tc_22) (Rd.ent hr34 (eJ (by repeat constructor))) rfl hxi rfl rfl rfl ?_
     refine p_ldat 0 tc_22 (Rd.ent (Rd.ent hr34 (eJ (by repeat constructor))) (eJ (by repeat constructor))) hxi rfl rfl rfl rfl ?_
     refine p_callv cf_9 (.c rfl .n) rfl (ref_LinesFault _ _ _ m hm.all (by omega) hms) ?_
     refine p_alloc zr_31 rfl fun b11=>?_
     refine p_store (.ofA ta_31) rfl rfl rfl (by first|rfl|exact rfl) (by first|rfl|exact rfl) (Ins.whole (by simp[*])) ?_
     refine o_keep (.c 4 rfl (.c 5 rfl (.c 6 rfl (.c 7 rfl (.c 8 rfl (.c 9 rfl (.c 10 rfl (.c 11 rfl .n)))))))) (r_seq (r_sr ?_))
     refine p_lda ta_31 rfl (Tk.all rfl) rfl ?_
     refine p_lda ta_31 rfl (Tk.all rfl) rfl ?_
     refine l_op (x_p (pv_to (pv_ane (eq_Fault (f:=⟨(linesF m).1,(linesF m).2⟩) (g:=⟨(linesF m).1,(linesF m).2⟩)) (.n rfl) rfl rfl rfl fS) (show _=Value.bool false by simp)) rfl rfl (p_mv rfl rfl (l_op (x_p (pv_fa fa_31_0 (.s rfl rfl rfl) rfl rfl gA) rfl rfl ?_))))
     refine l_op (x_r (q_ldc tc_3 (.s rfl rfl rfl) rfl rfl gA (by rfl)) rfl rfl ?_)
     refine l_op (x_p (pv_neq (.s rfl rfl rfl) rfl rfl rfl gB) rfl rfl ?_)
     refine l_op (x_p (pv_mv (.s rfl rfl rfl) rfl rfl gA) rfl rfl (l_op (x_p (pv_mv (.s rfl rfl rfl) rfl rfl gA) rfl rfl ?_)))
     refine l_op (x_p (pv_sne (.s rfl rfl rfl) rfl rfl rfl gB) rfl rfl ?_)
     refine l_op (x_p (pv_and (.s rfl rfl rfl) rfl rfl rfl (by intro hg;refine⟨?_,fun hc=>?_⟩<;>first|rfl|(rw[hc];rfl)|simp_all)) rfl rfl ?_)
     refine l_op (x_p (pv_or (.n rfl) rfl rfl rfl (fun _=>⟨rfl,fun hc=>by first|rfl|(rw[hc];rfl)|simp_all⟩)) rfl rfl ?_)
     refine o_keep (kp [4,5,6,7,8,9,11,64] rfl) (r_cond _ rfl (fun h4=>?_) (fun h4=>?_))
     ·exfalso;by_cases hz:(linesF m).1=0<;>simp[doS,hz] at h4
     ·skip
      refine r_skip (r_sr (p_fa fa_31_0 rfl rfl (p_ldc tc_3 rfl (by rfl) rfl ?_)))
      refine p_eql rfl rfl rfl (p_mv rfl rfl ?_)
      refine o_split (t:=68) rfl (fun g5=>?_) (fun g5=>?_)
      ·skip
       have hz0:(linesF m).1=0:=by simpa using g5
       have hdo:doS t m=linesT t m:=by unfold doS;rw[if_pos hz0]
       rw[hdo]
       refine o_g (.s rfl rfl rfl) rfl (p_mv rfl rfl (o_g (.s rfl rfl rfl) rfl (p_mv rfl rfl (o_g (.s rfl rfl rfl) rfl (p_mv rfl rfl (o_g (.s rfl rfl rfl) rfl (p_mv rfl rfl ?_)))))))
       refine o_g (.s rfl rfl rfl) rfl ?_
       refine p_idx Tryz.underlying29 (.ofC tc_22) (Rd.ent hr34 (eJ (by repeat constructor))) rfl hxi rfl rfl rfl ?_
       refine o_g (.s rfl rfl rfl) rfl (p_ldat 0 tc_22 (Rd.ent (Rd.ent hr34 (eJ (by repeat constructor))) (eJ (by repeat constructor))) hxi rfl rfl rfl rfl ?_)
       refine o_g (.s rfl rfl rfl) rfl ?_
       refine p_callc cf_10 (.c rfl (.c rfl .n)) rfl (rdk_Do _ L rx.1 rx.2 u t hD _ m hm (by omega) hms) ?_
       refine o_g (.s rfl rfl rfl) rfl (l_op (x_p (pv_sne (.n rfl) rfl rfl rfl fS) rfl rfl ?_))
       refine l_op (x_p (pv_and (.n rfl) rfl rfl rfl (fun _=>⟨rfl,fun hc=>by first|rfl|(rw[hc];rfl)|simp_all⟩)) rfl rfl ?_)
       refine o_keep (kp [4,5,6,7,8,77] rfl) (r_cond _ rfl (fun h6=>?_) (fun h6=>?_))
       ·exfalso;simp at h6
       ·skip
        refine r_skip (r_end (r_region (p_mv rfl rfl (p_add rfl rfl (by omega) rfl (p_as rfl rfl (o_keep (kp [4,5,6,7,8] rfl) ?_))))))
        refine r_back_3 (i+1) ((linesT t m).1) ((linesT t m).2) ?_ ?_ (Keep.app (kp [8] rfl) (kp [4,5,6,7] rfl)) ?_
        ·exact⟨by omega,hdo▸hD.doS m⟩
        ·omega
        ·apply eI;repeat constructor
      ·skip
       have hz0:¬ (linesF m).1=0:=by simpa using g5
       have hdo:doS t m=(t,[]):=by unfold doS;rw[if_neg hz0]
       rw[hdo]
       refine o_ng (.s rfl rfl rfl) rfl rfl (o_ng (.s rfl rfl rfl) rfl rfl (o_ng (.s rfl rfl rfl) rfl rfl (o_ng (.s rfl rfl rfl) rfl rfl (o_ng (.s rfl rfl rfl) rfl rfl (o_ng (.s rfl rfl rfl) rfl rfl (o_ng (.s rfl rfl rfl) rfl rfl (o_ng (.s rfl rfl rfl) rfl rfl ?_)))))))
       refine l_op (x_p (pv_andf (.n rfl) rfl rfl fR) rfl rfl (o_keep (kp [4,5,6,7,8,77] rfl) (r_cond _ rfl (fun h7=>?_) (fun h7=>?_))))
       ·exfalso;simp at h7
       ·skip
        refine r_skip (r_end (r_region (p_mv rfl rfl (p_add rfl rfl (by omega) rfl (p_as rfl rfl (o_keep (kp [4,5,6,7,8] rfl) ?_))))))
        refine r_back_3 (i+1) (t) (u) ?_ ?_ (Keep.app (kp [8] rfl) (kp [4,5,6,7] rfl)) ?_
        ·exact⟨by omega,hD⟩
        ·omega
        ·apply eI;repeat constructor
    ·skip
     refine r_exit rfl (r_sr (p_as rfl rfl (o_keep (kp [4] rfl) ?_)))
     refine r_retv hF rfl (.c (.t rfl) .n) ?_ ?_
     ·apply eI;repeat constructor
     ·rfl
end Go.Proofs.YtmakdilmibjpbaaGreatDoor
