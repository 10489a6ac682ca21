/- The walks of DeskC: written by a program of ours (gen.py) over the engine. What a desk tells is in reach. Plain Lean. The walks of DeskD: written by a program of ours (gen.py) over the engine. -/
import Derived.Test.YtmakdilmibjpbaaGreatDoorWants
import Derived.Test.YtmakdilmibjpbaaGreatDoorFacts
import Derived.Test.YtmakdilmibjpbaaGreatDoorDeskB
import Derived.Test.YtmakdilmibjpbaaGreatDoorDesks
namespace Go.Proofs.YtmakdilmibjpbaaGreatDoor
open Go Go.RowKit
set_option linter.unusedVariables false
set_option linter.unusedSimpArgs false
set_option maxRecDepth 20000
theorem join1 (a:List UInt8):Lib.join [a] [32]=a:=Lib.join_one _ _
theorem join2 (a c:List UInt8):Lib.join [a,c] [32]=a++(32::c):=by simp[Lib.join]
theorem kind_len (k:Int):(kindL k).length≤4:=by unfold kindL;(repeat' split)<;>simp
theorem code_len{c:Int}(h:i64 c):(codeS c).length≤30:=by
  have:=Lib.itoa_length_le c h.1 h.2
  unfold codeS;split<;>simp<;>omega
theorem desk_code (M:Amb)(L:LibOk M)(b tb:Nat)(u:List UInt8)(c:Int)(hc:i64 c)(hu:u.length≤10000000000):FnC Tryz.prog M 56 [ptr b,.int .i64 c] (resVal []) [bdP b tb u] [bdP b tb (u++codeS c)]:=by
 have hitl:=Lib.itoa_length_le (c) hc.1 hc.2
 refine fnc_intro Tryz.func56 rfl Tryz.ntmps56 rfl fun R F hF=>?_
 refine r_cat ?_
 refine r_seq (r_sr (p_mv rfl rfl (p_neq rfl rfl rfl (o_keep (kp [0,1,5] rfl) (r_cond _ rfl (fun h1=>?_) (fun h1=>?_))))))
 ·skip
  have h0:c≠0:=by simpa using h1
  have hs:codeS c=[110,111]++(32::Lib.itoa c)++[10]:=by unfold codeS;rw[if_pos h0];simp
  refine r_sr (p_mv rfl rfl (p_mv rfl rfl ?_))
  refine p_callv cf_28 (.c rfl .n) rfl (desk_num _ _ L c hc) ?_
  refine p_bsl Tryz.underlying22 (.ofC tc_9) zr_9 (.c rfl rfl rfl (.c rfl rfl rfl .n)) (rows:=([[110,111],Lib.itoa c]:List (List UInt8)).map rS) rfl rfl rfl rfl fun b9 hr9=>?_
  refine p_callc cf_29 (.c rfl (.c rfl .n)) rfl (desk_say _ b tb u _ [[110,111],Lib.itoa c] ([110,111]++(32::Lib.itoa c)) (join2 _ _) (by simp) (by simp;omega)) ?_
  refine o_keep (kp [0] rfl) ?_
  refine r_retv hF rfl .n ?_ ?_
  ·rw[hs];apply eI;repeat constructor
  ·rfl
 ·skip
  have h0:¬ c≠0:=by simpa using h1
  have hs:codeS c=[111,107]++[10]:=by unfold codeS;rw[if_neg h0];rfl
  refine r_skip (r_region (p_mv rfl rfl ?_))
  refine p_bsl Tryz.underlying22 (.ofC tc_9) zr_9 (.c rfl rfl rfl .n) (rows:=([[111,107]]:List (List UInt8)).map rS) rfl rfl rfl rfl fun b12 hr12=>?_
  refine p_callc cf_29 (.c rfl (.c rfl .n)) rfl (desk_say _ b tb u _ [[111,107]] ([111,107]) (join1 _) (by simp) (by simp;omega)) ?_
  refine o_keep (.n) ?_
  refine r_fallc hF rfl ?_
  ·rw[hs];apply eI;repeat constructor
theorem desk_kind (M:Amb)(H:List HP)(m:Mail)(hk:1≤m.kind∧m.kind≤4):FnV Tryz.prog M H 109 [vM m] (str (kindL m.kind)):=by
 obtain⟨i,hki⟩:∃ i:Nat,m.kind=(i:Int):=⟨m.kind.toNat,by omega⟩
 have hi4:i<5:=by omega
 have hrow:(([[],[97,115,107],[115,97,121],[101,110,100],[111,118,101,114]]:List (List UInt8)).map rS)[i]?=some [str (kindL m.kind)]:=by rcases (show i=1∨i=2∨i=3∨i=4 by omega) with rfl|rfl|rfl|rfl<;>rw[hki]<;>rfl
 refine fn_intro Tryz.func109 rfl Tryz.ntmps109 rfl fun F hF=>?_
 refine r_sr (p_box rfl rfl rfl fun b1=>?_)
 refine p_as rfl rfl (o_keep (kp [1,2] rfl) (r_sr ?_))
 refine p_bsl Tryz.underlying22 (.ofC tc_9) zr_9 (.c rfl rfl rfl (.c rfl rfl rfl (.c rfl rfl rfl (.c rfl rfl rfl (.c rfl rfl rfl .n))))) (rows:=([[],[97,115,107],[115,97,121],[101,110,100],[111,118,101,114]]:List (List UInt8)).map rS) rfl rfl rfl rfl fun b3 hr3=>?_
 refine p_fa fa_139_0 rfl rfl (p_ldc tc_3 rfl (by rfl) rfl ?_)
 refine p_idx Tryz.underlying22 (.ofC tc_9) hr3 hki hrow rfl rfl rfl (p_ldat 0 tc_9 (Rd.ent hr3 (eJ (by repeat constructor))) hrow rfl rfl rfl rfl ?_)
 refine p_as rfl rfl (o_keep (kp [2] rfl) ?_)
 refine r_retv hF rfl (.c (.t rfl) .n) ?_ ?_
 ·apply eI;repeat constructor
 ·rfl
theorem mail_i64{m:Mail}(h:Mr m):∀ n∈[m.deal,m.shop,m.ctr,m.dl],i64 n:=by
  obtain⟨-,h1,h2,h3,h4⟩:=h
  intro n hn
  simp only[List.mem_cons,List.not_mem_nil,or_false] at hn
  unfold i64
  rcases hn with rfl|rfl|rfl|rfl<;>omega
theorem desk_mails (M:Amb)(L:LibOk M)(b tb:Nat)(u:List UInt8)(v:Value)(l:List Mail)(hk:∀ m∈l,Mr m)(hl:l.length≤1000)(hu:u.length≤1000000000):FnC Tryz.prog M 65 [ptr b,v] (resVal []) [bdP b tb u,sl v 139 6 (l.map rM)] [bdP b tb (u++mailsS l),sl v 139 6 (l.map rM)]:=by
 refine fnc_intro Tryz.func65 rfl Tryz.ntmps65 rfl fun R F hF=>?_
 refine r_cat ?_
 refine r_rd v fun hrv=>?_
 refine r_seq (r_sr (p_mv rfl rfl (l_op (x_p (pv_lens (Rd.len hrv) ⟨_,Tryz.underlying70⟩ (.n rfl) rfl rfl rfl rfl fR) rfl rfl (p_mv rfl rfl (o_keep (kp [0,7,8,9] rfl) (r_block ?_)))))))
 refine r_loop_2 (fun (i:Nat) (u1:List UInt8)=>[(9,true,.int .i64 (i:Int))]) (kp [0,7,8] rfl) (fun (i:Nat) (u1:List UInt8)=>bdP b tb u1::sl v 139 6 (l.map rM)::R) (fun (i:Nat) (u1:List UInt8)=>i≤l.length∧u1=u++mailsU (l.take i)∧u1.length≤u.length+200*i) (fun (i:Nat) (u1:List UInt8)=>l.length - i) (0) (u) ?_ (kp [9] rfl) ?_ (fun i u1 hI=>?_)
 ·exact⟨Nat.zero_le _,by simp[mailsU],by omega⟩
 ·apply eI;repeat constructor
 ·skip
  obtain⟨hi0,hU,hul⟩:=hI
  refine r_sr (p_lss rfl rfl rfl (o_keep (kp [0,7,8,9,10] rfl) (r_seq (r_cond _ rfl (fun h1=>?_) (fun h1=>?_)))))
  ·skip
   obtain⟨m,hm⟩:=getlt (l:=l) (i:=i) (by have:=of_decide_eq_true h1;omega)
   have hil:=(List.getElem?_eq_some_iff.1 hm).1
   have hmr:=hk m (List.mem_of_getElem? hm)
   have hn1:=kind_len m.kind
   have hn2:(numsL [m.deal,m.shop,m.ctr,m.dl]).length≤88:=numsL_len (mail_i64 hmr)
   refine r_skip (r_seq (r_block (r_sr (p_idx Tryz.underlying70 (.ofA ta_139) hrv rfl (mapget hm) rfl rfl rfl ?_))))
   refine p_ldats 0 ta_139 (Rd.ent hrv (eJ (by repeat constructor))) (mapget hm) rfl rfl (.s (.s (.s (.s (.s (.s .z)))))) rfl ?_
   refine p_alloc zr_139 rfl fun b5=>?_
   refine p_store (.ofA ta_139) rfl rfl rfl (by first|rfl|exact rfl) (by first|rfl|exact rfl) (Ins.whole (by simp[*])) ?_
   refine o_keep (.c 0 rfl (.c 5 rfl (.c 7 rfl (.c 8 rfl (.c 9 rfl .n))))) (r_seq ?_)
   refine r_plan (_) ([]) mo (kp [0,5,7,8,9] rfl) (Ent.rfl) ?_
   refine yr 0 [.k 5] rfl rfl (by kernel_rfl) (fun He=>q_lda ta_139 (.n rfl) rfl rfl fR (Tk.all rfl)) ?_
   refine yq 1 [.o 0] rfl rfl (by kernel_rfl) (fun He=>rq_call cf_109 (.n rfl) rfl (.c rfl fR .n) (fun hg=>desk_kind _ _ m hmr.1)) ?_
   refine yp 2 [.k 5] rfl rfl (by kernel_rfl) (u_fa fa_139_1 rfl rfl rfl) (yr 3 [.o 2] rfl rfl (by kernel_rfl) (fun He=>u_ldc tc_3 rfl rfl rfl (by rfl)) ?_)
   refine yp 4 [.k 5] rfl rfl (by kernel_rfl) (u_fa fa_139_2 rfl rfl rfl) (yr 5 [.o 4] rfl rfl (by kernel_rfl) (fun He=>u_ldc tc_3 rfl rfl rfl (by rfl)) ?_)
   refine yp 6 [.k 5] rfl rfl (by kernel_rfl) (u_fa fa_139_3 rfl rfl rfl) (yp 7 [.o 6] rfl rfl (by kernel_rfl) (u_fa fa_93_0 rfl rfl rfl) (yr 8 [.o 7] rfl rfl (by kernel_rfl) (fun He=>u_ldc tc_3 rfl rfl rfl (by rfl)) ?_))
   refine yp 9 [.k 5] rfl rfl (by kernel_rfl) (u_fa fa_139_3 rfl rfl rfl) (yp 10 [.o 9] rfl rfl (by kernel_rfl) (u_fa fa_93_1 rfl rfl rfl) (yr 11 [.o 10] rfl rfl (by kernel_rfl) (fun He=>u_ldc tc_3 rfl rfl rfl (by rfl)) ?_))
   refine qm_bsl Tryz.underlying65 (.ofC tc_3) zr_3 (i:=12) [.o 3,.o 5,.o 8,.o 11] (by kernel_rfl) (by kernel_rfl) rfl rfl rfl rfl (by kernel_rfl) (by kernel_rfl) ⟨_,.n rfl,rfl⟩ rfl (.c rfl rfl rfl (.c rfl rfl rfl (.c rfl rfl rfl (.c rfl rfl rfl .n)))) (rows:=([m.deal,m.shop,m.ctr,m.dl]:List Int).map rI) rfl rfl rfl fun b25 hr25=>?_
   refine qm_keep ?_
   refine yq 13 [.o 12] rfl rfl (by kernel_rfl) (fun He=>rq_call cf_61 (.n rfl) rfl (.c rfl fR .n) (fun hg=>desk_nums _ _ L _ [m.deal,m.shop,m.ctr,m.dl] (Rd.ent hr25 (eJ (by repeat constructor))) (by simp) (mail_i64 hmr))) ?_
   refine yp 14 [.o 1,.o 13] rfl rfl (by kernel_rfl) (pv_sadd (fun _=>by (try simp only[List.length_append,List.length_cons,List.length_nil]);omega) (.n rfl) rfl rfl rfl fS) ?_
   refine yp 15 [.o 14] rfl rfl (by kernel_rfl) (u_as rfl rfl rfl) ?_
   refine qm_n (by kernel_rfl) (by kernel_rfl) (by kernel_rfl) (by kernel_rfl) (kp [0,5,6,7,8,9] rfl) ?_
   refine r_seq (r_seq ?_)
   rcases hy:m.yes with _|_
   ·skip
    have hms:mailS m=(kindL m.kind++numsL [m.deal,m.shop,m.ctr,m.dl])++[10]:=by unfold mailS;rw[hy];simp
    refine r_region (p_fa fa_139_4 rfl rfl (p_ldc tc_4 rfl (by rfl) rfl ?_))
    refine o_keep (kp [0,6,7,8,9,29] rfl) (r_cond _ rfl (fun h2=>?_) (fun h2=>?_))
    ·simp at h2
    ·skip
     refine r_skip (r_region (p_mv rfl rfl (p_mv rfl rfl ?_)))
     refine p_bsl Tryz.underlying22 (.ofC tc_9) zr_9 (.c rfl rfl rfl .n) (rows:=([_]:List (List UInt8)).map rS) rfl rfl rfl rfl fun b34 hr34=>?_
     refine p_callc cf_29 (.c rfl (.c rfl .n)) rfl (desk_say _ b tb u1 _ [kindL m.kind++numsL [m.deal,m.shop,m.ctr,m.dl]] (kindL m.kind++numsL [m.deal,m.shop,m.ctr,m.dl]) (join1 _) (by simp) (by simp;omega)) ?_
     refine o_keep (kp [0,7,8,9] rfl) (r_end (r_region (p_add rfl rfl (by omega) rfl (p_mv rfl rfl (o_keep (kp [0,7,8,9] rfl) ?_)))))
     refine r_back_2 (i+1) (u1++((kindL m.kind++numsL [m.deal,m.shop,m.ctr,m.dl])++[10])) ?_ ?_ (Keep.app (kp [9] rfl) (kp [0,7,8] rfl)) ?_
     ·exact⟨by omega,by rw[mailsU_take hm,hms,hU];simp only[List.append_assoc],by simp;omega⟩
     ·omega
     ·apply eI;repeat constructor
   ·skip
    have hms:mailS m=(kindL m.kind++numsL [m.deal,m.shop,m.ctr,m.dl]++[32,121,101,115])++[10]:=by unfold mailS;rw[hy];simp
    refine r_region (p_fa fa_139_4 rfl rfl (p_ldc tc_4 rfl (by rfl) rfl ?_))
    refine o_keep (kp [0,6,7,8,9,29] rfl) (r_cond _ rfl (fun h3=>?_) (fun h3=>?_))
    ·skip
     refine r_region (p_mv rfl rfl ?_)
     refine l_op (x_p (pv_sadd (fun _=>by (try simp only[List.length_append,List.length_cons,List.length_nil]);omega) (.n rfl) rfl rfl rfl fS) rfl rfl ?_)
     refine p_as rfl rfl (o_keep (kp [0,6,7,8,9] rfl) (r_region (p_mv rfl rfl (p_mv rfl rfl ?_))))
     refine p_bsl Tryz.underlying22 (.ofC tc_9) zr_9 (.c rfl rfl rfl .n) (rows:=([_]:List (List UInt8)).map rS) rfl rfl rfl rfl fun b34 hr34=>?_
     refine p_callc cf_29 (.c rfl (.c rfl .n)) rfl (desk_say _ b tb u1 _ [(kindL m.kind++numsL [m.deal,m.shop,m.ctr,m.dl]++[32,121,101,115])] ((kindL m.kind++numsL [m.deal,m.shop,m.ctr,m.dl]++[32,121,101,115])) (join1 _) (by simp) (by simp;omega)) ?_
     refine o_keep (kp [0,7,8,9] rfl) (r_end (r_region (p_add rfl rfl (by omega) rfl (p_mv rfl rfl (o_keep (kp [0,7,8,9] rfl) ?_)))))
     refine r_back_2 (i+1) (u1++((kindL m.kind++numsL [m.deal,m.shop,m.ctr,m.dl]++[32,121,101,115])++[10])) ?_ ?_ (Keep.app (kp [9] rfl) (kp [0,7,8] rfl)) ?_
     ·exact⟨by omega,by rw[mailsU_take hm,hms,hU];simp only[List.append_assoc],by simp;omega⟩
     ·omega
     ·apply eI;repeat constructor
    ·simp at h3
  ·skip
   have hil:l.length≤i:=by have:=of_decide_eq_false h1;omega
   rw[List.take_of_length_le hil] at hU
   refine r_exit rfl (r_region (p_mv rfl rfl ?_))
   refine p_bsl Tryz.underlying22 (.ofC tc_9) zr_9 (.c rfl rfl rfl .n) (rows:=([[101,110,100]]:List (List UInt8)).map rS) rfl rfl rfl rfl fun b38 hr38=>?_
   refine p_callc cf_29 (.c rfl (.c rfl .n)) rfl (desk_say _ b tb u1 _ [[101,110,100]] ([101,110,100]) (join1 _) (by simp) (by simp;omega)) ?_
   refine o_keep (.n) ?_
   refine r_fallc hF rfl ?_
   ·rw[show u++mailsS l=u1++([101,110,100]++[10]) by rw[hU,List.append_assoc];rfl];apply eI;repeat constructor
theorem desk_New (M:Amb) :FnE (α:=Nat×Nat) Tryz.prog M 6 [] [] (fun x=>ptr x.1) (fun x=>[bdI x.1 x.2,townP x.2 tn0]):=by
 refine fne_intro Tryz.func6 rfl Tryz.ntmps6 rfl fun R F hF=>?_
 refine r_cat ?_
 refine r_sr (p_as rfl rfl (o_keep (kp [0] rfl) (r_sr (l_op (x_p (pv_buildA zr_38 Tryz.underlying38 (.ofC tc_3) (.n rfl) rfl (.n)) rfl rfl (p_alloc zr_38 rfl fun b1=>?_))))))
 refine p_store (.ofA ta_38) rfl rfl rfl rfl rfl (Ins.whole rfl) ?_
 refine o_keep (kp [0,1] rfl) (r_seq (r_sr (p_mv rfl rfl (o_keep (kp [0,1,4] rfl) (r_block ?_)))))
 refine r_loop_2 (fun (i:Nat) (vs:List Int)=>[(4,true,.int .i64 (i:Int))]) (kp [0,1] rfl) (fun (i:Nat) (vs:List Int)=>blk b1 (vs.map vI) 38::R) (fun (i:Nat) (vs:List Int)=>i≤6∧vs.length=6∧∀ j:Nat,j<i→vs.getD j 0=hw.getD j 0) (fun (i:Nat) (vs:List Int)=>6 - i) (0) ([0,0,0,0,0,0]) ?_ (kp [4] rfl) ?_ (fun i vs hI=>?_)
 ·exact⟨Nat.zero_le _,rfl,fun j hj=>by omega⟩
 ·apply eI;repeat constructor
 ·skip
  obtain⟨hi0,hvl,hv⟩:=hI
  refine r_sr (p_lss rfl rfl rfl (o_keep (kp [0,1,4,5] rfl) (r_seq (r_cond _ rfl (fun h1=>?_) (fun h1=>?_)))))
  ·skip
   have hi6:i<6:=by have:=of_decide_eq_true h1;omega
   have h50:(50:Int)=hw.getD i 0:=by rcases (show i=0∨i=1∨i=2∨i=3∨i=4∨i=5 by omega) with rfl|rfl|rfl|rfl|rfl|rfl<;>rfl
   refine r_skip (r_seq (r_block (r_sr (p_mv rfl rfl (p_as rfl rfl (o_keep (kp [0,1,2,4] rfl) (r_region ?_)))))))
   refine p_mv rfl rfl (l_op (x_p (pv_aidx (i:=i) Tryz.underlying38 (.ofC tc_3) (fun hg=>⟨rfl,hi6⟩) (.n rfl) rfl rfl rfl fS) rfl rfl ?_))
   refine p_store (.ofC tc_3) rfl rfl rfl rfl rfl (Ins.atm' (f:=vI) (i:=i) (by omega) (by omega)) ?_
   refine o_keep (kp [0,1,4] rfl) (r_end (r_region (p_add rfl rfl (by omega) rfl (p_mv rfl rfl (o_keep (kp [0,1,4] rfl) ?_)))))
   refine r_back_2 (i+1) (vs.set i 50) ?_ ?_ (Keep.app (kp [4] rfl) (kp [0,1] rfl)) ?_
   ·exact⟨by omega,by simp;omega,fun j hj=>wset (n:=i) (fun j hj=>hv j (by omega)) (by omega) h50 j (by omega)⟩
   ·omega
   ·apply eI;repeat constructor
  ·skip
   have hi6:i=6:=by have:=of_decide_eq_false h1;omega
   have hvW:vs=hw:=wext hvl rfl fun j hj=>hv j (by omega)
   subst hvW
   refine r_exit rfl (r_sr ?_)
   refine p_lda ta_38 rfl (Tk.all rfl) rfl ?_
   refine p_calle cf_11 (.c rfl .n) rfl (town_New_b _) fun tb=>?_
   refine o_cat ?_
   refine p_build zr_46 pl_46 (.c rfl fR rfl rfl rfl (by repeat constructor) .n) rfl ?_
   refine p_box rfl rfl rfl fun b13=>?_
   refine p_as rfl rfl (o_keep (kp [0] rfl) ?_)
   refine r_rete ((b13,tb)) hF rfl (.c (.t rfl) .n) ?_ ?_
   ·refine Ent.catI ?_;refine Ent.c (bdI_close (.pointer Option.none) (.slice Option.none 0 0) rfl) ?_;apply eI;repeat constructor
   ·rfl
end Go.Proofs.YtmakdilmibjpbaaGreatDoor
namespace Go.Proofs.YtmakdilmibjpbaaGreatDoor
open Go Go.RowKit
set_option linter.unusedVariables false
set_option linter.unusedSimpArgs false
theorem wantF_rng (w:Want):0≤wantF w∧wantF w≤2:=by
  unfold wantF dlt;(repeat' split)<;>omega
theorem scan_rng:∀ (l pre:List Want),0≤(scanW pre l).code∧(scanW pre l).code≤4
  | [],_=>by simp[scanW]
  | w::l,pre=>by
    have:=wantF_rng w
    unfold scanW
    split
    · dsimp only;omega
    · split
      · dsimp only;omega
      · exact scan_rng l _
theorem check_rng (l:List Want):0≤(checkL l).code∧(checkL l).code≤4:=by
  unfold checkL
  split
  · dsimp only;omega
  · split
    · dsimp only;omega
    · exact scan_rng l []
theorem begin_rng (b:BrokS)(l:List Want):0≤(beginB b l).2.2∧(beginB b l).2.2≤6:=by
  have:=check_rng l
  unfold beginB
  split
  · dsimp only;omega
  · split<;>dsimp only<;>omega
theorem deliver_rng (t:TownS)(n:Int):0≤(deliverT t n).2∧(deliverT t n).2≤10:=by
  unfold deliverT
  (repeat' split)<;>dsimp only<;>omega
theorem step_rng (t:TownS)(x:StepS):0≤(stepT t x).2∧(stepT t x).2≤10:=by
  unfold stepT
  split
  · have:=begin_rng t.b x.wants;dsimp only;omega
  split
  · dsimp only;omega
  split
  · exact deliver_rng t x.n
  split
  · split<;>dsimp only<;>omega
  split
  · (repeat' split)<;>dsimp only<;>omega
  split
  · unfold quitB;(repeat' split)<;>dsimp only<;>omega
  split
  · (repeat' split)<;>dsimp only<;>omega
  split<;>dsimp only<;>omega
theorem step_i64 (t:TownS)(x:StepS):i64 (stepT t x).2:=by have:=step_rng t x;unfold i64;omega
theorem z6_rng:∀ w∈z6,Wr w:=by unfold Wr;decide
theorem go_rng:∀ (l:List Want) (ws:List Int) (i:Nat),(∀ w∈ws,Wr w)→∀ w∈(goA ws l i).1,Wr w
  | [],ws,i,h=>by unfold goA;exact h
  | x::l,ws,i,h=>by
    unfold goA
    split
    · exact z6_rng
    split
    · exact z6_rng
    split
    · exact z6_rng
    · refine go_rng l _ _ fun w hw=>?_
      rcases List.mem_or_eq_of_mem_set hw with hw|rfl
      · exact h w hw
      · exact⟨by omega,by omega⟩
theorem apply_rng{ws:List Int}(h:∀ w∈ws,Wr w)(l:List Want):∀ w∈(applyL ws l).1,Wr w:=by
  unfold applyL;split
  · exact z6_rng
  · exact go_rng l ws 0 h
theorem serialL_rng (b:BrokS):∀ (l ws:List Int),(∀ w∈ws,Wr w)→∀ w∈(serialL b ws l).1,Wr w
  | [],ws,h=>by unfold serialL;exact h
  | n::l,ws,h=>by
    unfold serialL;split
    · exact z6_rng
    · exact serialL_rng b l _ (apply_rng h _)
theorem Wr.i64{w:Int}(h:Wr w):i64 w:=by unfold Wr at h;unfold Go.Proofs.YtmakdilmibjpbaaGreatDoor.i64;omega
theorem DInv.serial{t:TownS}(h:DInv t):(serialT t).2=0∧(serialT t).1.length=6∧∀ w∈(serialT t).1,Go.Proofs.YtmakdilmibjpbaaGreatDoor.i64 w:=by
  refine⟨by rw[h.ti.ser],by rw[h.ti.ser];simp,fun w hw=>Wr.i64 (serialL_rng t.b _ _ h.wr w hw)⟩
theorem DInv.world{t:TownS}(h:DInv t):∀ w∈worldT t,Go.Proofs.YtmakdilmibjpbaaGreatDoor.i64 w:=by
  intro w hw
  unfold worldT at hw
  simp only[List.mem_flatMap] at hw
  obtain⟨k,hk,hw⟩:=hw
  obtain⟨s,hs,e⟩:=List.mem_iff_getElem.1 hk
  have hI:=(h.ti.k s k (by rw[← e];exact List.getElem?_eq_getElem hs)).1.sh
  have h0:=chk_ok hI.k0
  have h1:=chk_ok hI.k1
  simp only[List.mem_cons,List.not_mem_nil,or_false] at hw
  unfold Go.Proofs.YtmakdilmibjpbaaGreatDoor.i64
  rcases hw with rfl|rfl<;>omega
theorem BInv.order{b:BrokS}(h:BInv b):∀ n∈b.order,Go.Proofs.YtmakdilmibjpbaaGreatDoor.i64 n:=by
  intro n hn
  have h1:=(h.ord n).1 hn
  have h2:=h.len
  unfold Go.Proofs.YtmakdilmibjpbaaGreatDoor.i64
  rcases h.st n with q|q<;>omega
theorem BInv.state{b:BrokS}(h:BInv b)(n:Int):Go.Proofs.YtmakdilmibjpbaaGreatDoor.i64 (stateB b n):=by
  unfold Go.Proofs.YtmakdilmibjpbaaGreatDoor.i64
  rcases h.st n with q|q<;>omega
theorem ShInv.cnt{s:ShopS}(h:ShInv s):(∀ n∈[s.c0.v,s.c0.o,s.c0.i],Go.Proofs.YtmakdilmibjpbaaGreatDoor.i64 n)∧∀ n∈[s.c1.v,s.c1.o,s.c1.i],Go.Proofs.YtmakdilmibjpbaaGreatDoor.i64 n:=by
  have h0:=chk_ok h.k0
  have h1:=chk_ok h.k1
  unfold Go.Proofs.YtmakdilmibjpbaaGreatDoor.i64
  constructor<;>intro n hn<;>simp only[List.mem_cons,List.not_mem_nil,or_false] at hn<;>rcases hn with rfl|rfl|rfl<;>omega
theorem ShInv.hold{s:ShopS}(h:ShInv s){x:Hld}(hx:x∈s.holds):∀ n∈[x.deal,x.ctr,x.dl],Go.Proofs.YtmakdilmibjpbaaGreatDoor.i64 n:=by
  obtain⟨h1,h2,h3,h4,-⟩:=h.h x hx
  have:=dlt_ok h3
  have:=h.no0
  have:=h.no3
  unfold Go.Proofs.YtmakdilmibjpbaaGreatDoor.i64
  intro n hn
  simp only[List.mem_cons,List.not_mem_nil,or_false] at hn
  rcases hn with rfl|rfl|rfl<;>omega
theorem calm_i64 (t:TownS):i64 (calmT t).2:=by have:=calm_le t;unfold i64;omega
end Go.Proofs.YtmakdilmibjpbaaGreatDoor
namespace Go.Proofs.YtmakdilmibjpbaaGreatDoor
open Go Go.RowKit
set_option linter.unusedVariables false
set_option linter.unusedSimpArgs false
set_option maxRecDepth 20000
theorem nilRd{M:Amb}{H:List HP}{sz:Nat}:Rd M H (.slice Option.none 0 0) sz []:=⟨fun r hr=>by simp at hr,_,0,rfl,by simp,by simp,fun _=>⟨rfl,rfl⟩,(fun _ hA _=>by cases hA)⟩
theorem town_StepN (M:Amb)(b:Nat)(t:TownS)(hT:TInv t)(k n:Int):FnC Tryz.prog M 57 [ptr b,.agg #[.int .i64 k,.int .i64 n,.slice Option.none 0 0]] (.int .i64 (stepT t ⟨k,n,[]⟩).2) [townP b t] [townP b (stepT t ⟨k,n,[]⟩).1]:=fun R=>
  town_Step M R b t hT ⟨k,n,.slice Option.none 0 0,[]⟩ nilRd (by simp)
theorem town_StepW (M:Amb)(b:Nat)(t:TownS)(hT:TInv t)(k n:Int)(wv:Value)(ws:List Want)(hb:ws.length≤100000):FnC Tryz.prog M 57 [ptr b,.agg #[.int .i64 k,.int .i64 n,wv]] (.int .i64 (stepT t ⟨k,n,ws⟩).2) [townP b t,sl wv 93 2 (ws.map rW)] [townP b (stepT t ⟨k,n,ws⟩).1,sl wv 93 2 (ws.map rW)]:=fun R w ho=>by
  have hr:Rd M [sl wv 93 2 (ws.map rW)] wv 2 (ws.map rW):=sl_rd (R:=townP b t::R) (ho.ent (Ent.swap))
  exact town_Step M (sl wv 93 2 (ws.map rW)::R) b t hT ⟨k,n,wv,ws⟩ (hr.ent (Ent.one Ent.h)) hb w ho
theorem pairs_at{l:List Int}{i:Nat}{a b:Int}(h1:l[i]?=some a)(h2:l[i+1]?=some b):pairsL (l.drop i)=⟨a,b⟩::pairsL (l.drop (i+2)):=by
  rw[drop_at h1,drop_at h2];rfl
theorem pairs_end{l:List Int}{i:Nat}(h:l.length≤i+1):pairsL (l.drop i)=[]:=by
  rcases hd:l.drop i with _|⟨a,_|⟨b,r⟩⟩
  · rfl
  · rfl
  · have:=congrArg List.length hd
    simp at this;omega
theorem desk_begin (M:Amb)(L:LibOk M)(b tb:Nat)(u:List UInt8)(t:TownS)(hT:TInv t)(v:Value)(l:List Int)(hl:l.length≤100000)(hu:u.length≤1000000000):FnC Tryz.prog M 58 [ptr b,v] (resVal []) [bdP b tb u,townP tb t,sl v 3 1 (l.map rI)] [bdP b tb (u++codeS (stepT t ⟨1,0,pairsL l⟩).2),townP tb (stepT t ⟨1,0,pairsL l⟩).1,sl v 3 1 (l.map rI)]:=by
 refine fnc_intro Tryz.func58 rfl Tryz.ntmps58 rfl fun R F hF=>?_
 refine r_cat ?_
 refine r_rd v fun hv=>?_
 refine r_sr (p_as rfl rfl (o_keep (kp [0,1,4] rfl) (r_seq (r_sr (p_as rfl rfl (o_keep (kp [0,1,4,5] rfl) (r_block ?_)))))))
 refine r_loop_3 (fun (i:Nat) (wv:Value) (ws:List Want)=>[(5,true,.int .i64 (i:Int)),(4,true,wv)]) (kp [0,1] rfl) (fun (i:Nat) (wv:Value) (ws:List Want)=>sl wv 93 2 ((ws).map rW)::bdP b tb u::townP tb t::sl v 3 1 (l.map rI)::R) (fun (i:Nat) (wv:Value) (ws:List Want)=>i≤l.length+1∧ws++pairsL (l.drop i)=pairsL l∧2*ws.length≤i) (fun (i:Nat) (wv:Value) (ws:List Want)=>l.length+2 - i) (0) (.slice Option.none 0 0) ([]) ?_ (kp [5,4] rfl) ?_ (fun i wv ws hI=>?_)
 ·exact⟨Nat.zero_le _,rfl,by simp⟩
 ·apply eI;repeat constructor
 ·skip
  obtain⟨hi0,hp,hwl⟩:=hI
  refine r_seq (r_sr (p_mv rfl rfl (p_add rfl rfl (by omega) rfl (p_mv rfl rfl (l_op (x_p (pv_lens (Rd.len hv) ⟨_,Tryz.underlying65⟩ (.n rfl) rfl rfl rfl rfl fR) rfl rfl (p_lss rfl rfl rfl (o_keep (kp [0,1,4,5,10] rfl) ?_))))))))
  refine r_cond _ rfl (fun h1=>?_) (fun h1=>?_)
  ·skip
   have hi1:i+1<l.length:=by have:=of_decide_eq_true h1;omega
   obtain⟨x,hx⟩:=getlt (l:=l) (i:=i) (by omega)
   obtain⟨y,hy⟩:=getlt (l:=l) (i:=i+1) (by omega)
   rw[pairs_at hx hy] at hp
   refine r_skip (r_seq (r_block ?_))
   refine r_plan (_) ([sl wv 93 2 ((ws).map rW)]) mo (kp [0,1,4,5] rfl) (SelS.ent) ?_
   refine yp 0 [.k 4] rfl rfl (by kernel_rfl) (u_mv rfl rfl rfl) (yp 1 [.k 1] rfl rfl (by kernel_rfl) (u_mv rfl rfl rfl) (yp 2 [.k 5] rfl rfl (by kernel_rfl) (u_mv rfl rfl rfl) (yp 3 [.o 1,.o 2] rfl rfl (by kernel_rfl) (pv_idx Tryz.underlying65 (.ofC tc_3) hv (fun hg=>⟨rfl,(mapget hx)⟩) (.n rfl) rfl rfl rfl fS) ?_)))
   refine yr 4 [.o 3] rfl rfl (by kernel_rfl) (fun He=>rv_ldat (j:=0) tc_3 (Rd.ent hv (eJ (by repeat constructor))) (fun hg=>(mapget hx)) (.n rfl) rfl rfl fR rfl fR) ?_
   refine yp 5 [.k 1] rfl rfl (by kernel_rfl) (u_mv rfl rfl rfl) (yp 6 [.k 5] rfl rfl (by kernel_rfl) (u_mv rfl rfl rfl) (yp 7 [.o 6] rfl rfl (by kernel_rfl) (pv_add (fun _=>by omega) (.n rfl) rfl rfl rfl fS) ?_))
   refine yp 8 [.o 5,.o 7] rfl rfl (by kernel_rfl) (pv_idx Tryz.underlying65 (.ofC tc_3) hv (fun hg=>⟨by omega,(mapget hy)⟩) (.n rfl) rfl rfl rfl fS) ?_
   refine yr 9 [.o 8] rfl rfl (by kernel_rfl) (fun He=>rv_ldat (j:=0) tc_3 (Rd.ent hv (eJ (by repeat constructor))) (fun hg=>(mapget hy)) (.n rfl) rfl rfl fR rfl fR) ?_
   refine yp 10 [.o 4,.o 9] rfl rfl (by kernel_rfl) (pv_build zr_93 pl_93 (.n rfl) rfl (.c rfl fR rfl rfl rfl (by repeat constructor) (.c rfl fR rfl rfl rfl (by repeat constructor) .n))) ?_
   refine qm_bslice1 Tryz.underlying89 (.ofA ta_93) zr_93 rfl (i:=11) [.o 10] (by kernel_rfl) (by kernel_rfl) rfl rfl rfl rfl (by kernel_rfl) (by kernel_rfl) ⟨_,.n rfl,rfl⟩ rfl rfl rfl rfl rfl rfl fun b24=>?_
   refine qa_append Tryz.underlying89 el_93 rfl rfl (i:=12) [.o 0,.o 11] (by kernel_rfl) (by kernel_rfl) rfl rfl rfl rfl (by kernel_rfl) (by kernel_rfl) ⟨_,.n rfl,rfl⟩ rfl rfl rfl (Rd.blit rfl rfl) (by simp;omega) fun v25=>?_
   refine qm_rd v25 fun hr25=>?_
   refine yp 13 [.o 12] rfl rfl (by kernel_rfl) (u_as rfl rfl rfl) ?_
   refine qm_n (by kernel_rfl) (by kernel_rfl) (by kernel_rfl) (by kernel_rfl) (kp [0,1,4,5] rfl) ?_
   refine r_end (r_region (p_mv rfl rfl (p_add rfl rfl (by omega) rfl (p_as rfl rfl (o_keep (kp [0,1,4,5] rfl) ?_)))))
   refine r_back_3 (i+2) (v25) (ws++[⟨x,y⟩]) ?_ ?_ (Keep.app (kp [5,4] rfl) (kp [0,1] rfl)) ?_
   ·exact⟨by omega,by simpa using hp,by simp;omega⟩
   ·omega
   ·simp only[List.map_append,List.map_cons,List.map_nil];apply eI;repeat constructor
  ·skip
   have hi1:l.length≤i+1:=by have:=of_decide_eq_false h1;omega
   rw[pairs_end hi1,List.append_nil] at hp
   subst hp
   refine r_exit rfl ?_
   refine r_rd wv fun hrw=>?_
   refine r_region (p_mv rfl rfl (p_mv rfl rfl (p_nil rfl rfl (p_fa fa_46_1 rfl rfl (l_op (x_r (rv_ldc tc_39 (bd_cell (SelX.ent (X:=bdP b tb u))) (.n rfl) rfl rfl fR) rfl rfl ?_))))))
   refine p_mv rfl rfl ?_
   refine p_build zr_91 pl_91 (.c rfl fR rfl rfl rfl (by repeat constructor) (.c rfl fR rfl hrw.c1 rfl (by repeat constructor) .n)) rfl ?_
   refine p_callc cf_57 (.c rfl (.c rfl .n)) rfl (town_StepW _ tb t hT 1 0 wv (pairsL l) (by omega)) ?_
   refine p_callc cf_56 (.c rfl (.c rfl .n)) rfl (desk_code _ L b tb u (stepT t ⟨1,0,pairsL l⟩).2 (step_i64 t _) (by omega)) ?_
   refine o_keep (.n) ?_
   refine r_fallc hF rfl ?_
   ·refine Ent.catI ?_;apply eI;repeat constructor
def w8:List (List UInt8):=[[],[],[],[100,101,108,105,118,101,114],[108,111,115,101],[100,111,117,98,108,101],[113,117,105,116],[115,104,111,112]]
def w9:List (List UInt8):=[[],[],[116,105,99,107],[],[],[],[],[],[98,114,111,107,101,114]]
theorem step_w (w:List UInt8):(idxI w8 (fun x=>decide (x=w))≤0∧(w≠[100,101,108,105,118,101,114]∧w≠[108,111,115,101]∧w≠[100,111,117,98,108,101]∧w≠[113,117,105,116]∧w≠[115,104,111,112]))∨(w=[100,101,108,105,118,101,114]∧idxI w8 (fun x=>decide (x=w))=3)∨(w=[108,111,115,101]∧idxI w8 (fun x=>decide (x=w))=4)∨(w=[100,111,117,98,108,101]∧idxI w8 (fun x=>decide (x=w))=5)∨(w=[113,117,105,116]∧idxI w8 (fun x=>decide (x=w))=6)∨(w=[115,104,111,112]∧idxI w8 (fun x=>decide (x=w))=7):=by
  by_cases h3:w=[100,101,108,105,118,101,114]
  · subst h3;exact .inr (.inl ⟨rfl,by decide⟩)
  by_cases h4:w=[108,111,115,101]
  · subst h4;exact .inr (.inr (.inl ⟨rfl,by decide⟩))
  by_cases h5:w=[100,111,117,98,108,101]
  · subst h5;exact .inr (.inr (.inr (.inl ⟨rfl,by decide⟩)))
  by_cases h6:w=[113,117,105,116]
  · subst h6;exact .inr (.inr (.inr (.inr (.inl ⟨rfl,by decide⟩))))
  by_cases h7:w=[115,104,111,112]
  · subst h7;exact .inr (.inr (.inr (.inr (.inr ⟨rfl,by decide⟩))))
  refine .inl ⟨?_,h3,h4,h5,h6,h7⟩
  rcases idxI_cases w8 (fun x=>decide (x=w)) with ⟨h,_⟩|⟨i,x,h,hi,hx,_⟩
  · omega
  · have hx':x=w:=of_decide_eq_true hx
    subst hx'
    have hil:=(List.getElem?_eq_some_iff.1 hi).1
    have h8:i<8:=hil
    rcases (show i=0∨i=1∨i=2∨i=3∨i=4∨i=5∨i=6∨i=7 by omega) with rfl|rfl|rfl|rfl|rfl|rfl|rfl|rfl
    · omega
    all_goals first
      | exact absurd (Option.some.inj hi).symm h3
      | exact absurd (Option.some.inj hi).symm h4
      | exact absurd (Option.some.inj hi).symm h5
      | exact absurd (Option.some.inj hi).symm h6
      | exact absurd (Option.some.inj hi).symm h7
      | (have he : x = [] := (Option.some.inj hi).symm
         subst he
         have h0 : idxI w8 (fun y => decide (y = ([] : List UInt8))) = 0 := by decide
         omega)
theorem step_v (w:List UInt8):(idxI w9 (fun x=>decide (x=w))≤0∧(w≠[116,105,99,107]∧w≠[98,114,111,107,101,114]))∨(w=[116,105,99,107]∧idxI w9 (fun x=>decide (x=w))=2)∨(w=[98,114,111,107,101,114]∧idxI w9 (fun x=>decide (x=w))=8):=by
  by_cases h3:w=[116,105,99,107]
  · subst h3;exact .inr (.inl ⟨rfl,by decide⟩)
  by_cases h4:w=[98,114,111,107,101,114]
  · subst h4;exact .inr (.inr ⟨rfl,by decide⟩)
  refine .inl ⟨?_,h3,h4⟩
  rcases idxI_cases w9 (fun x=>decide (x=w)) with ⟨h,_⟩|⟨i,x,h,hi,hx,_⟩
  · omega
  · have hx':x=w:=of_decide_eq_true hx
    subst hx'
    have hil:=(List.getElem?_eq_some_iff.1 hi).1
    have h9:i<9:=hil
    rcases (show i=0∨i=1∨i=2∨i=3∨i=4∨i=5∨i=6∨i=7∨i=8 by omega) with rfl|rfl|rfl|rfl|rfl|rfl|rfl|rfl|rfl
    · omega
    all_goals first
      | exact absurd (Option.some.inj hi).symm h3
      | exact absurd (Option.some.inj hi).symm h4
      | (have he : x = [] := (Option.some.inj hi).symm
         subst he
         have h0 : idxI w9 (fun y => decide (y = ([] : List UInt8))) = 0 := by decide
         omega)
theorem stepK_1{w:List UInt8}{l:List Int}(h:0<idxI w8 (fun x=>decide (x=w)))(hl:l.length=1):stepK w l=some ⟨idxI w8 (fun x=>decide (x=w)),l.getD 0 0,[]⟩:=by
  have hl0:¬ l.length=0:=by omega
  rcases step_w w with ⟨h0,-⟩|⟨rfl,e⟩|⟨rfl,e⟩|⟨rfl,e⟩|⟨rfl,e⟩|⟨rfl,e⟩
  · omega
  all_goals
    rw[e]
    simp[stepK,hl]
theorem stepK_0{w:List UInt8}{l:List Int}(h:0<idxI w9 (fun x=>decide (x=w)))(hl:l.length=0):stepK w l=some ⟨idxI w9 (fun x=>decide (x=w)),0,[]⟩:=by
  rcases step_v w with ⟨h0,-⟩|⟨rfl,e⟩|⟨rfl,e⟩
  · omega
  all_goals
    rw[e]
    simp[stepK,hl]
theorem stepK_b{l:List Int}(hl:l.length % 2=0):stepK [98,101,103,105,110] l=some ⟨1,0,pairsL l⟩:=by simp[stepK,hl]
theorem stepK_n{w:List UInt8}{l:List Int}(h1:¬ (0<idxI w8 (fun x=>decide (x=w))∧l.length=1))(h2:¬ (0<idxI w9 (fun x=>decide (x=w))∧l.length=0))(h3:¬ (w=[98,101,103,105,110]∧l.length % 2=0)):stepK w l=none:=by
  unfold stepK
  rw[if_neg h3]
  rcases step_w w with ⟨h0,a1,a2,a3,a4,a5⟩|⟨rfl,e⟩|⟨rfl,e⟩|⟨rfl,e⟩|⟨rfl,e⟩|⟨rfl,e⟩
  · rcases step_v w with ⟨_,b1,b2⟩|⟨rfl,e⟩|⟨rfl,e⟩
    · simp[a1,a2,a3,a4,a5,b1,b2]
    · rw[e] at h2;simp at h2;simp[h2]
    · rw[e] at h2;simp at h2;simp[h2]
  all_goals
    rw[e] at h1;simp at h1;simp[h1]
def tellO (t:TownS)(o:Option StepS):TownS×List UInt8:=match o with
  | none=>(t,[])
  | some x=>tellS t x
theorem desk_step (M:Amb)(L:LibOk M)(b tb:Nat)(u:List UInt8)(t:TownS)(hT:TInv t)(w:List UInt8)(v:Value)(l:List Int)(hl:l.length≤100000)(hu:u.length≤1000000000):FnC Tryz.prog M 30 [ptr b,str w,v] (.bool (stepK w l).isSome) [bdP b tb u,townP tb t,sl v 3 1 (l.map rI)] [bdP b tb (u++(tellO t (stepK w l)).2),townP tb (tellO t (stepK w l)).1,sl v 3 1 (l.map rI)]:=by
 have htm:(l.length:Int).tmod 2=((l.length % 2:Nat):Int):=rfl
 refine fnc_intro Tryz.func30 rfl Tryz.ntmps30 rfl fun R F hF=>?_
 refine r_cat ?_
 refine r_rd v fun hv=>?_
 refine r_sr (p_as rfl rfl (o_keep (kp [0,1,2,6] rfl) (r_sr ?_)))
 refine p_bsl Tryz.underlying22 (.ofC tc_9) zr_9 (.c rfl rfl rfl (.c rfl rfl rfl (.c rfl rfl rfl (.c rfl rfl rfl (.c rfl rfl rfl (.c rfl rfl rfl (.c rfl rfl rfl (.c rfl rfl rfl .n)))))))) (rows:=w8.map rS) rfl rfl rfl rfl fun b9 hr9=>?_
 refine p_mv rfl rfl ?_
 refine p_callv cf_55 (.c rfl (.c rfl .n)) rfl (str_Index _ _ _ w8 w (Rd.ent hr9 (eJ (by repeat constructor))) (by decide)) ?_
 refine p_as rfl rfl (o_keep (kp [0,1,2,6,7] rfl) (r_sr ?_))
 refine p_bsl Tryz.underlying22 (.ofC tc_9) zr_9 (.c rfl rfl rfl (.c rfl rfl rfl (.c rfl rfl rfl (.c rfl rfl rfl (.c rfl rfl rfl (.c rfl rfl rfl (.c rfl rfl rfl (.c rfl rfl rfl (.c rfl rfl rfl .n))))))))) (rows:=w9.map rS) rfl rfl rfl rfl fun b12 hr12=>?_
 refine p_mv rfl rfl ?_
 refine p_callv cf_55 (.c rfl (.c rfl .n)) rfl (str_Index _ _ _ w9 w (Rd.ent hr12 (eJ (by repeat constructor))) (by decide)) ?_
 refine p_as rfl rfl (o_keep (kp [0,1,2,6,7,8] rfl) (r_seq (r_block (r_sr (p_mv rfl rfl (p_gtr rfl rfl rfl (p_mv rfl rfl ?_)))))))
 refine l_op (x_p (pv_mv (.s rfl rfl rfl) rfl rfl gA) rfl rfl (l_op (x_p (pv_lens (Rd.len hv) ⟨_,Tryz.underlying65⟩ (.s rfl rfl rfl) rfl rfl rfl rfl gA) rfl rfl ?_)))
 refine l_op (x_p (pv_eql (.s rfl rfl rfl) rfl rfl rfl gB) rfl rfl ?_)
 refine l_op (x_p (pv_and (.n rfl) rfl rfl rfl (fun _=>⟨rfl,fun hc=>by first|rfl|(rw[hc];rfl)|simp_all⟩)) rfl rfl ?_)
 refine p_as rfl rfl (o_keep (kp [0,1,2,6,7,8,15] rfl) (r_cond _ rfl (fun h1=>?_) (fun h1=>?_)))
 ·skip
  have hc1:0<idxI w8 (fun x=>decide (x=w))∧l.length=1:=by simp at h1;omega
  obtain⟨x,hx⟩:=getlt (l:=l) (i:=0) (by omega)
  have hk:=stepK_1 hc1.1 hc1.2
  have hx0:l.getD 0 0=x:=by rw[List.getD_eq_getElem?_getD,hx];rfl
  rw[hx0] at hk
  refine r_plan (_) ([townP tb t]) mo (kp [0,2,6,7] rfl) (SelX.ent) ?_
  refine yp 0 [.k 0] rfl rfl (by kernel_rfl) (u_mv rfl rfl rfl) (yp 1 [.k 0] rfl rfl (by kernel_rfl) (u_mv rfl rfl rfl) (yp 2 [.o 1] rfl rfl (by kernel_rfl) (u_nil rfl rfl rfl) (yp 3 [.o 2] rfl rfl (by kernel_rfl) (u_fa fa_46_1 rfl rfl rfl) ?_)))
  refine yr 4 [.o 3] rfl rfl (by kernel_rfl) (fun He=>rv_ldc tc_39 (bd_cell (SelX.ent (X:=bdP b tb u))) (.n rfl) rfl rfl fR) ?_
  refine yp 5 [.k 7] rfl rfl (by kernel_rfl) (u_mv rfl rfl rfl) (yp 6 [.k 2] rfl rfl (by kernel_rfl) (u_mv rfl rfl rfl) (yp 7 [.o 6] rfl rfl (by kernel_rfl) (pv_idx Tryz.underlying65 (.ofC tc_3) hv (fun hg=>⟨rfl,(mapget hx)⟩) (.n rfl) rfl rfl rfl fS) ?_))
  refine yr 8 [.o 7] rfl rfl (by kernel_rfl) (fun He=>rv_ldat (j:=0) tc_3 (Rd.ent hv (eJ (by repeat constructor))) (fun hg=>(mapget hx)) (.n rfl) rfl rfl fR rfl fR) ?_
  refine yp 9 [.o 5,.o 8] rfl rfl (by kernel_rfl) (pv_build zr_91 pl_91 (.n rfl) rfl (.c rfl fR rfl rfl rfl (by repeat constructor) (.c rfl fR rfl rfl rfl (by repeat constructor) .n))) ?_
  refine qx_callc (ex:=[0]) (i:=10) [.o 4,.o 9] (by kernel_rfl) (by kernel_rfl) rfl rfl rfl (by kernel_rfl) (by kernel_rfl) (by kernel_rfl) (by kernel_rfl) ⟨_,.n rfl,rfl⟩ (exOne (l:=[.k 0]) rfl rfl (by kernel_rfl) rfl (by kernel_rfl) rfl (fun He=>PV.rq (u_mv rfl rfl rfl))) cf_57 rfl (.c rfl (.c rfl .n)) (town_StepN _ tb t hT (idxI w8 (fun x=>decide (x=w))) x) ?_
  refine qb_callc (i:=11) [.o 0,.o 10] (by kernel_rfl) (by kernel_rfl) rfl rfl rfl rfl (by kernel_rfl) (by kernel_rfl) (by kernel_rfl) ⟨_,.n rfl,rfl⟩ cf_56 rfl (.c rfl (.c rfl .n)) (desk_code _ L b tb u (stepT t ⟨idxI w8 (fun x=>decide (x=w)),x,[]⟩).2 (step_i64 t _) (by omega)) ?_
  refine qm_n (by kernel_rfl) (by kernel_rfl) (by kernel_rfl) (by kernel_rfl) (kp [6] rfl) ?_
  refine r_end (r_sr (p_as rfl rfl (o_keep (kp [6] rfl) ?_)))
  refine r_retv hF rfl (.c (.t rfl) .n) ?_ ?_
  ·rw[hk];dsimp only[tellO,tellS];apply eI;repeat constructor
  ·rw[hk];rfl
 ·skip
  have hc1:¬ (0<idxI w8 (fun x=>decide (x=w))∧l.length=1):=fun hh=>by simp[hh.1,hh.2] at h1
  refine r_sr (p_mv rfl rfl (p_gtr rfl rfl rfl (p_mv rfl rfl (l_op (x_p (pv_mv (.s rfl rfl rfl) rfl rfl gA) rfl rfl ?_)))))
  refine l_op (x_p (pv_lens (Rd.len hv) ⟨_,Tryz.underlying65⟩ (.s rfl rfl rfl) rfl rfl rfl rfl gA) rfl rfl ?_)
  refine l_op (x_p (pv_eql (.s rfl rfl rfl) rfl rfl rfl gB) rfl rfl ?_)
  refine l_op (x_p (pv_and (.n rfl) rfl rfl rfl (fun _=>⟨rfl,fun hc=>by first|rfl|(rw[hc];rfl)|simp_all⟩)) rfl rfl ?_)
  refine p_as rfl rfl (o_keep (kp [0,1,2,6,8,35] rfl) (r_cond _ rfl (fun h2=>?_) (fun h2=>?_)))
  ·skip
   have hc2:0<idxI w9 (fun x=>decide (x=w))∧l.length=0:=by simpa using h2
   have hk:=stepK_0 hc2.1 hc2.2
   refine r_region (p_mv rfl rfl (p_mv rfl rfl (p_nil rfl rfl (p_fa fa_46_1 rfl rfl (l_op (x_r (rv_ldc tc_39 (bd_cell (SelX.ent (X:=bdP b tb u))) (.n rfl) rfl rfl fR) rfl rfl ?_))))))
   refine p_mv rfl rfl ?_
   refine p_build zr_91 pl_91 (.c rfl fR rfl rfl rfl (by repeat constructor) .n) rfl ?_
   refine p_callc cf_57 (.c rfl (.c rfl .n)) rfl (town_StepN _ tb t hT (idxI w9 (fun x=>decide (x=w))) 0) ?_
   refine p_callc cf_56 (.c rfl (.c rfl .n)) rfl (desk_code _ L b tb u (stepT t ⟨idxI w9 (fun x=>decide (x=w)),0,[]⟩).2 (step_i64 t _) (by omega)) ?_
   refine o_keep (kp [6] rfl) (r_end (r_sr (p_as rfl rfl (o_keep (kp [6] rfl) ?_))))
   refine r_retv hF rfl (.c (.t rfl) .n) ?_ ?_
   ·rw[hk];dsimp only[tellO,tellS];apply eI;repeat constructor
   ·rw[hk];rfl
  ·skip
   have hc2:¬ (0<idxI w9 (fun x=>decide (x=w))∧l.length=0):=fun hh=>by simp[hh.1,hh.2] at h2
   refine r_sr (p_mv rfl rfl (l_op (x_p (pv_seq (.n rfl) rfl rfl rfl fS) rfl rfl (p_mv rfl rfl (l_op (x_p (pv_mv (.s rfl rfl rfl) rfl rfl gA) rfl rfl ?_))))))
   refine l_op (x_p (pv_lens (Rd.len hv) ⟨_,Tryz.underlying65⟩ (.s rfl rfl rfl) rfl rfl rfl rfl gA) rfl rfl ?_)
   refine l_op (x_p (pv_rem (by intro hg;simp at hg;omega) (.s rfl rfl rfl) rfl rfl rfl gB) rfl rfl ?_)
   refine l_op (x_p (pv_eql (.s rfl rfl rfl) rfl rfl rfl gB) rfl rfl ?_)
   refine l_op (x_p (pv_and (.n rfl) rfl rfl rfl (fun _=>⟨rfl,fun hc=>by first|rfl|(rw[hc];rfl)|simp_all⟩)) rfl rfl ?_)
   refine p_as rfl rfl (o_keep (kp [0,2,6,52] rfl) (r_cond _ rfl (fun h3=>?_) (fun h3=>?_)))
   ·skip
    have hc3:w=[98,101,103,105,110]∧l.length % 2=0:=by simp at h3;exact⟨h3.1,by have:=h3.2;omega⟩
    have hk:stepK w l=some ⟨1,0,pairsL l⟩:=by rw[hc3.1];exact stepK_b hc3.2
    refine r_region (p_mv rfl rfl (p_mv rfl rfl ?_))
    refine p_callc cf_58 (.c rfl (.c rfl .n)) rfl (desk_begin _ L b tb u t hT v l hl hu) ?_
    refine o_keep (kp [6] rfl) (r_end (r_sr (p_as rfl rfl (o_keep (kp [6] rfl) ?_))))
    refine r_retv hF rfl (.c (.t rfl) .n) ?_ ?_
    ·rw[hk];dsimp only[tellO,tellS];apply eI;repeat constructor
    ·rw[hk];rfl
   ·skip
    have hc3:¬ (w=[98,101,103,105,110]∧l.length % 2=0):=fun hh=>by simp[hh.1] at h3;omega
    have hk:=stepK_n hc1 hc2 hc3
    refine r_sr (p_as rfl rfl (o_keep (kp [6] rfl) ?_))
    refine r_retv hF rfl (.c (.t rfl) .n) ?_ ?_
    ·rw[hk];dsimp only[tellO];rw[List.append_nil];apply eI;repeat constructor
    ·rw[hk];rfl
theorem cnt_at2 (a b:Cnt){q:Nat}(h:q<2){c:Cnt}(hc:c=if q=0 then a else b):((cntL a++cntL b).drop (q*3)).take 3=cntL c:=by subst hc;exact cnt_at a b h
def cntU (s:ShopS):Nat→List UInt8
  | 0=>[]
  | 1=>countS s.c0
  | _=>countS s.c0++countS s.c1
theorem cntU_step (s:ShopS){q:Nat}(h:q<2){c:Cnt}(hc:c=if q=0 then s.c0 else s.c1):cntU s (q+1)=cntU s q++countS c:=by
  subst hc
  rcases (show q=0∨q=1 by omega) with rfl|rfl<;>simp[cntU]
theorem cnt_i64{s:ShopS}(h:ShInv s){q:Nat}{c:Cnt}(hc:c=if q=0 then s.c0 else s.c1):∀ n∈[c.v,c.o,c.i],i64 n:=by
  subst hc
  split
  · exact h.cnt.1
  · exact h.cnt.2
theorem desk_shop (M:Amb)(L:LibOk M)(b tb:Nat)(u:List UInt8)(t:TownS)(hI:DInv t)(n:Int)(hu:u.length≤1000000000):FnC Tryz.prog M 68 [ptr b,.int .i64 n] (resVal []) [bdP b tb u,townP tb t] [bdP b tb (u++shopS t n),townP tb t]:=by
 have hlen3:=hI.ti.len
 refine fnc_intro Tryz.func68 rfl Tryz.ntmps68 rfl fun R F hF=>?_
 refine r_cat ?_
 refine r_sel (townP tb t) ?_
 refine r_town fun bb c0 c1 c2 pb=>?_
 refine r_cat ?_
 refine r_seq ?_
 have hsh:(n<0∨3≤n)∨∃ i:Nat,n=(i:Int)∧i<3:=by by_cases h:n<0∨3≤n;exact .inl h;exact .inr ⟨n.toNat,by omega,by omega⟩
 rcases hsh with hsh|⟨i,hsi,hi3⟩
 ·skip
  have hs:shopS t n=codeS 1:=by unfold shopS;rw[if_pos hsh]
  refine r_region (p_mv rfl rfl (p_nil rfl rfl (p_fa fa_46_1 rfl rfl (l_op (x_r (rv_ldc tc_39 (bd_cell (SelX.ent (X:=bdP b tb u))) (.n rfl) rfl rfl fR) rfl rfl ?_)))))
  refine p_mv rfl rfl ?_
  refine p_callv cf_100 (.c rfl (.c rfl .n)) rfl ((town_Clerk_n _ tb bb t.ws c0 c1 c2 pb n hsh).q) ?_
  refine p_as rfl rfl (o_keep (kp [0,4] rfl) (r_seq (r_sr (p_mv rfl rfl (l_op (x_p (pv_peqn Tryz.underlying59 (.n rfl) rfl rfl rfl fS) rfl rfl (o_keep (kp [0,4,16] rfl) (r_cond _ rfl (fun h1=>?_) (fun h1=>?_)))))))))
  ·skip
   refine r_sr (p_mv rfl rfl ?_)
   refine p_callc cf_56 (.c rfl (.c rfl .n)) rfl (desk_code _ L b tb u 1 (by unfold i64;omega) (by omega)) ?_
   refine o_keep (kp [0,4] rfl) ?_
   refine r_retv hF rfl .n ?_ ?_
   ·rw[hs];refine Ent.catI ?_;refine Ent.c (SelX.ent) ?_;refine Ent.c (townP_close (t:=t) bb c0 c1 c2 pb rfl) ?_;apply eI;repeat constructor
   ·rfl
  ·simp at h1
 ·skip
  obtain⟨k,hk3⟩:=getlt (l:=t.ks) (i:=i) (by omega)
  obtain⟨hK,hkn,hkw⟩:=hI.ti.k i k hk3
  have hh1:=hK.sh.holds_le
  have hh2:=hK.sh.over_le
  have hs:shopS t n=cntU k.shop 2++holdU k.shop.holds++[101,110,100,10]:=by unfold shopS;rw[if_neg (by omega),show n.toNat=i by omega,hk3];simp[cntU]
  refine r_region (p_mv rfl rfl (p_nil rfl rfl (p_fa fa_46_1 rfl rfl (l_op (x_r (rv_ldc tc_39 (bd_cell (SelX.ent (X:=bdP b tb u))) (.n rfl) rfl rfl fR) rfl rfl ?_)))))
  refine p_mv rfl rfl ?_
  refine p_callv cf_100 (.c rfl (.c rfl .n)) rfl ((town_Clerk_s _ tb bb t.ws c0 c1 c2 pb n i hsi hi3).q) ?_
  refine p_as rfl rfl (o_keep (kp [0,4] rfl) (r_seq (r_sr (p_mv rfl rfl (l_op (x_p (pv_peqn Tryz.underlying59 (.n rfl) rfl rfl rfl fS) rfl rfl (o_keep (kp [0,4,16] rfl) (r_cond _ rfl (fun h2=>?_) (fun h2=>?_)))))))))
  ·simp at h2
  ·skip
   refine r_skip (r_seq (r_seq ?_))
   refine r_many (P:=clerkP) (bs:=[c0,c1,c2]) i (cAt_get hi3) hk3 ?_
   refine r_ex fun kb=>?_
   refine r_cat ?_
   refine r_sel (keepP kb k) ?_
   refine r_ex2 fun sb lv=>?_
   refine r_cat ?_
   refine r_rd lv fun hrl=>?_
   refine r_region (p_mv rfl rfl (p_nil rfl rfl (p_fa fa_125_0 rfl rfl (p_ldc tc_122 rfl (by rfl) rfl ?_))))
   refine p_nil rfl rfl (p_fa fa_155_0 rfl rfl (p_ldc tc_152 rfl (by rfl) rfl ?_))
   refine p_callv cf_105 (.c rfl .n) rfl ((shop_Counts _ sb k.shop).q) ?_
   refine p_mv rfl rfl (o_keep (kp [0,4,26,27] rfl) (r_block ?_))
   refine r_loop_2 (fun (q:Nat) (u1:List UInt8)=>[(27,true,.int .i64 (q:Int))]) (kp [0,4,26] rfl) (fun (q:Nat) (u1:List UInt8)=>bdP b tb u1::restP clerkP [c0,c1,c2] t.ks i::postP pb t.post::brokP bb t.b::blk tb (tnC bb t.ws c0 c1 c2 pb) 62::blk (cAt c0 c1 c2 i) [ptr kb,.int .i64 k.no] 125::blk kb (kpC k sb lv) 155::sl lv 181 5 (k.l.map rR)::shopP sb k.shop::R) (fun (q:Nat) (u1:List UInt8)=>q≤2∧u1=u++cntU k.shop q∧u1.length≤u.length+100*q) (fun (q:Nat) (u1:List UInt8)=>2 - q) (0) (u) ?_ (kp [27] rfl) ?_ (fun q u1 hI=>?_)
   ·exact⟨Nat.zero_le _,by simp[cntU],by omega⟩
   ·apply eI;repeat constructor
   ·skip
    obtain⟨hq0,hU,hUl⟩:=hI
    refine r_sr (p_lss rfl rfl rfl (o_keep (kp [0,4,26,27,28] rfl) (r_seq (r_cond _ rfl (fun h3=>?_) (fun h3=>?_)))))
    ·skip
     have hq2:q<2:=by have:=of_decide_eq_true h3;omega
     obtain⟨cq,hcq⟩:∃ c:Cnt,c=if q=0 then k.shop.c0 else k.shop.c1:=⟨_,rfl⟩
     have hcr:=cnt_i64 hK.sh hcq
     have hcl:(numsL [cq.v,cq.o,cq.i]).length≤66:=numsL_len hcr
     refine r_skip (r_seq (r_block (r_sr (l_op (x_p (pv_index (i:=q) Tryz.underlying105 ta_104 (fun hg=>⟨rfl,hq2⟩) (.n rfl) rfl rfl rfl fS (fun hg=>cnt_at2 _ _ hq2 hcq)) rfl rfl (p_alloc zr_104 rfl fun b6=>?_))))))
     refine p_store (.ofA ta_104) rfl rfl rfl (by first|rfl|exact rfl) (by first|rfl|exact rfl) (Ins.whole (by first|rfl|(simp only[List.length_map,List.length_cons,List.length_nil];omega)|(simp[*];done)|(simp[*];rfl))) ?_
     refine o_keep (.c 0 rfl (.c 4 rfl (.c 6 rfl (.c 26 rfl (.c 27 rfl .n))))) (r_region (p_mv rfl rfl (p_fa fa_104_0 rfl rfl (p_ldc tc_3 rfl (by rfl) rfl ?_))))
     refine p_fa fa_104_1 rfl rfl (p_ldc tc_3 rfl (by rfl) rfl ?_)
     refine p_fa fa_104_2 rfl rfl (p_ldc tc_3 rfl (by rfl) rfl ?_)
     refine p_bsl Tryz.underlying65 (.ofC tc_3) zr_3 (.c rfl rfl rfl (.c rfl rfl rfl (.c rfl rfl rfl .n))) (rows:=([cq.v,cq.o,cq.i]:List Int).map rI) rfl rfl rfl rfl fun b37 hr37=>?_
     refine p_callv cf_61 (.c rfl .n) rfl (desk_nums _ _ L _ [cq.v,cq.o,cq.i] (Rd.ent hr37 (eJ (by repeat constructor))) (by simp) hcr) ?_
     refine l_op (x_p (pv_sadd (fun _=>by (try simp only[List.length_append,List.length_cons,List.length_nil]);omega) (.n rfl) rfl rfl rfl fS) rfl rfl ?_)
     refine p_bsl Tryz.underlying22 (.ofC tc_9) zr_9 (.c rfl rfl rfl .n) (rows:=([[99,111,117,110,116]++numsL [cq.v,cq.o,cq.i]]:List (List UInt8)).map rS) rfl rfl rfl rfl fun b40 hr40=>?_
     refine p_callc cf_29 (.c rfl (.c rfl .n)) rfl (desk_say _ b tb u1 _ [[99,111,117,110,116]++numsL [cq.v,cq.o,cq.i]] ([99,111,117,110,116]++numsL [cq.v,cq.o,cq.i]) (join1 _) (by simp) (by simp;omega)) ?_
     refine o_keep (kp [0,4,26,27] rfl) (r_end (r_region (p_add rfl rfl (by omega) rfl (p_mv rfl rfl (o_keep (kp [0,4,26,27] rfl) ?_)))))
     refine r_back_2 (q+1) (u1++([99,111,117,110,116]++numsL [cq.v,cq.o,cq.i]++[10])) ?_ ?_ (Keep.app (kp [27] rfl) (kp [0,4,26] rfl)) ?_
     ·exact⟨by omega,by rw[cntU_step k.shop hq2 hcq,hU];simp only[countS,listS,List.append_assoc],by simp;omega⟩
     ·omega
     ·apply eI;repeat constructor
    ·skip
     have hq2:q=2:=by have:=of_decide_eq_false h3;omega
     subst hq2
     refine r_exit rfl (r_seq (r_sr (p_mv rfl rfl (p_nil rfl rfl (p_fa fa_125_0 rfl rfl (p_ldc tc_122 rfl (by rfl) rfl ?_))))))
     refine p_nil rfl rfl (p_fa fa_155_0 rfl rfl (p_ldc tc_152 rfl (by rfl) rfl ?_))
     refine p_calle cf_114 (.c rfl .n) rfl (shop_Holds _ sb k.shop (by omega) (by omega)) fun hv=>?_
     refine o_cat ?_
     refine o_rd hv fun hrh=>?_
     refine l_op (x_p (pv_lens (Rd.len hrh) ⟨_,Tryz.underlying112⟩ (.n rfl) rfl rfl rfl rfl fR) rfl rfl (p_mv rfl rfl (o_keep (kp [0,50,51,52] rfl) (r_block ?_))))
     refine r_loop_2 (fun (j:Nat) (u2:List UInt8)=>[(52,true,.int .i64 (j:Int))]) (kp [0,50,51] rfl) (fun (j:Nat) (u2:List UInt8)=>bdP b tb u2::sl hv 116 3 (k.shop.holds.map rH)::restP clerkP [c0,c1,c2] t.ks i::postP pb t.post::brokP bb t.b::blk tb (tnC bb t.ws c0 c1 c2 pb) 62::blk (cAt c0 c1 c2 i) [ptr kb,.int .i64 k.no] 125::blk kb (kpC k sb lv) 155::sl lv 181 5 (k.l.map rR)::shopP sb k.shop::R) (fun (j:Nat) (u2:List UInt8)=>j≤k.shop.holds.length∧u2=u1++holdU (k.shop.holds.take j)∧u2.length≤u1.length+100*j) (fun (j:Nat) (u2:List UInt8)=>k.shop.holds.length - j) (0) (u1) ?_ (kp [52] rfl) ?_ (fun j u2 hI=>?_)
     ·exact⟨Nat.zero_le _,by simp[holdU],by omega⟩
     ·apply eI;repeat constructor
     ·skip
      obtain⟨hj0,hV,hVl⟩:=hI
      refine r_sr (p_lss rfl rfl rfl (o_keep (kp [0,50,51,52,53] rfl) (r_seq (r_cond _ rfl (fun h4=>?_) (fun h4=>?_)))))
      ·skip
       obtain⟨z,hz⟩:=getlt (l:=k.shop.holds) (i:=j) (by have:=of_decide_eq_true h4;omega)
       have hjl:=(List.getElem?_eq_some_iff.1 hz).1
       have hcr:=hK.sh.hold (List.mem_of_getElem? hz)
       have hcl:(numsL [z.deal,z.ctr,z.dl]).length≤66:=numsL_len hcr
       refine r_skip (r_seq (r_block (r_sr (p_idx Tryz.underlying112 (.ofA ta_116) hrh rfl (mapget hz) rfl rfl rfl ?_))))
       refine p_ldats 0 ta_116 (Rd.ent hrh (eJ (by repeat constructor))) (mapget hz) rfl rfl (.s (.s (.s .z))) rfl ?_
       refine p_alloc zr_116 rfl fun b8=>?_
       refine p_store (.ofA ta_116) rfl rfl rfl (by first|rfl|exact rfl) (by first|rfl|exact rfl) (Ins.whole (by simp[*])) ?_
       refine o_keep (.c 0 rfl (.c 8 rfl (.c 50 rfl (.c 51 rfl (.c 52 rfl .n))))) (r_region (p_mv rfl rfl (p_fa fa_116_0 rfl rfl (p_ldc tc_3 rfl (by rfl) rfl ?_))))
       refine p_fa fa_116_1 rfl rfl (p_ldc tc_3 rfl (by rfl) rfl ?_)
       refine p_fa fa_116_2 rfl rfl (p_ldc tc_3 rfl (by rfl) rfl ?_)
       refine p_bsl Tryz.underlying65 (.ofC tc_3) zr_3 (.c rfl rfl rfl (.c rfl rfl rfl (.c rfl rfl rfl .n))) (rows:=([z.deal,z.ctr,z.dl]:List Int).map rI) rfl rfl rfl rfl fun b63 hr63=>?_
       refine p_callv cf_61 (.c rfl .n) rfl (desk_nums _ _ L _ [z.deal,z.ctr,z.dl] (Rd.ent hr63 (eJ (by repeat constructor))) (by simp) hcr) ?_
       refine l_op (x_p (pv_sadd (fun _=>by (try simp only[List.length_append,List.length_cons,List.length_nil]);omega) (.n rfl) rfl rfl rfl fS) rfl rfl ?_)
       refine p_bsl Tryz.underlying22 (.ofC tc_9) zr_9 (.c rfl rfl rfl .n) (rows:=([[104,111,108,100]++numsL [z.deal,z.ctr,z.dl]]:List (List UInt8)).map rS) rfl rfl rfl rfl fun b66 hr66=>?_
       refine p_callc cf_29 (.c rfl (.c rfl .n)) rfl (desk_say _ b tb u2 _ [[104,111,108,100]++numsL [z.deal,z.ctr,z.dl]] ([104,111,108,100]++numsL [z.deal,z.ctr,z.dl]) (join1 _) (by simp) (by simp;omega)) ?_
       refine o_keep (kp [0,50,51,52] rfl) (r_end (r_region (p_add rfl rfl (by omega) rfl (p_mv rfl rfl (o_keep (kp [0,50,51,52] rfl) ?_)))))
       refine r_back_2 (j+1) (u2++([104,111,108,100]++numsL [z.deal,z.ctr,z.dl]++[10])) ?_ ?_ (Keep.app (kp [52] rfl) (kp [0,50,51] rfl)) ?_
       ·exact⟨by omega,by rw[holdU_take hz,hV];simp only[listS,List.append_assoc],by simp;omega⟩
       ·omega
       ·apply eI;repeat constructor
      ·skip
       have hjl:k.shop.holds.length≤j:=by have:=of_decide_eq_false h4;omega
       rw[List.take_of_length_le hjl] at hV
       refine r_exit rfl (r_region (p_mv rfl rfl ?_))
       refine p_bsl Tryz.underlying22 (.ofC tc_9) zr_9 (.c rfl rfl rfl .n) (rows:=([[101,110,100]]:List (List UInt8)).map rS) rfl rfl rfl rfl fun b70 hr70=>?_
       refine p_callc cf_29 (.c rfl (.c rfl .n)) rfl (desk_say _ b tb u2 _ [[101,110,100]] ([101,110,100]) (join1 _) (by simp) (by simp;omega)) ?_
       refine o_keep (.n) ?_
       refine r_fallc hF rfl ?_
       ·rw[show u++shopS t n=u2++([101,110,100]++[10]) by rw[hs,hV,hU];simp only[List.append_assoc];rfl];refine Ent.catI ?_;refine Ent.c (SelX.ent) ?_;refine Ent.tr (keepP_close (b:=kb) (k:=k) sb lv rfl rfl) ?_;refine Ent.tr (clerkP_close (b:=cAt c0 c1 c2 i) (k:=k) kb rfl) ?_;refine Ent.tr (Ent.mono (SelX.ent (X:=restP clerkP [c0,c1,c2] t.ks i))) ?_;refine Ent.tr (many_back (cAt_get hi3) hk3) ?_;refine Ent.c (townP_close (t:=t) bb c0 c1 c2 pb rfl) ?_;apply eI;repeat constructor
end Go.Proofs.YtmakdilmibjpbaaGreatDoor
