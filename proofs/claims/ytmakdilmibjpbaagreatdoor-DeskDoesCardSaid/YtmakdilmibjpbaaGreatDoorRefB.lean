/- The walks of RefA: written by a program of ours (gen.py) over the engine. The walks of RefB: written by a program of ours (gen.py) over the engine. -/
import Derived.Test.YtmakdilmibjpbaaGreatDoorWants
import Derived.Test.YtmakdilmibjpbaaGreatDoorFacts
import Derived.Test.YtmakdilmibjpbaaGreatDoorDeskG
import Derived.Test.YtmakdilmibjpbaaGreatDoorMarkW2
import Derived.Test.YtmakdilmibjpbaaGreatDoorFun
import Derived.Test.YtmakdilmibjpbaaGreatDoorMarkW3
namespace Go.Proofs.YtmakdilmibjpbaaGreatDoor
open Go Go.RowKit
set_option linter.unusedVariables false
set_option linter.unusedSimpArgs false
set_option maxRecDepth 20000
theorem rdk_say (M:Amb)(b mb:Nat)(u s:List UInt8)(hu:u.length+s.length+1≤9000000000000):FnC Tryz.prog M 34 [ptr b,str s] (resVal []) [blk b [str (u),ptr mb] 50] [blk b [str (u++(s++[10])),ptr mb] 50]:=by
 refine fnc_intro Tryz.func34 rfl Tryz.ntmps34 rfl fun R F hF=>?_
 refine r_cat ?_
 refine r_region (p_mv rfl rfl (p_nil rfl rfl (p_fa fa_50_0 rfl rfl (p_ldc tc_9 rfl (by rfl) rfl ?_))))
 refine p_mv rfl rfl ?_
 refine l_op (x_p (pv_sadd (fun _=>by (try simp only[List.length_append,List.length_cons,List.length_nil]);omega) (.n rfl) rfl rfl rfl fS) rfl rfl ?_)
 refine l_op (x_p (pv_sadd (fun _=>by (try simp only[List.length_append,List.length_cons,List.length_nil]);omega) (.n rfl) rfl rfl rfl fS) rfl rfl ?_)
 refine p_nil rfl rfl (p_fa fa_50_0 rfl rfl ?_)
 refine p_store (.ofC tc_9) rfl rfl rfl rfl rfl (by repeat constructor) ?_
 refine o_keep (.n) ?_
 refine r_fallc hF rfl ?_
 ·refine Ent.catI ?_;apply eI;repeat constructor
theorem rdk_list (M:Amb)(L:LibOk M)(b mb:Nat)(u:List UInt8)(X:HP)(s:List UInt8)(v:Value)(l:List Int)(hv:Rd M [X] v 1 (l.map rI))(hr:∀ n∈l,i64 n)(hb:l.length≤1000)(hu:u.length+s.length≤1000000000000):FnC Tryz.prog M 39 [ptr b,str s,v] (resVal []) [blk b [str (u),ptr mb] 50,X] [blk b [str (u++listS s l),ptr mb] 50,X]:=by
 refine fnc_intro Tryz.func39 rfl Tryz.ntmps39 rfl fun R F hF=>?_
 refine r_cat ?_
 refine r_seq (r_sr (p_as rfl rfl (o_keep (kp [0,1,2,6] rfl) (r_block ?_))))
 refine r_loop_2 (fun (i:Nat) (s1:List UInt8)=>[(6,true,.int .i64 (i:Int)),(1,true,str s1)]) (kp [0,2] rfl) (fun (i:Nat) (s1:List UInt8)=>blk b [str (u),ptr mb] 50::X::R) (fun (i:Nat) (s1:List UInt8)=>i≤l.length∧s1=s++numsL (l.take i)∧s1.length≤s.length+22*i) (fun (i:Nat) (s1:List UInt8)=>l.length - i) (0) (s) ?_ (kp [6,1] rfl) ?_ (fun i s1 hI=>?_)
 ·exact⟨Nat.zero_le _,by simp[numsL],by omega⟩
 ·apply eI;repeat constructor
 ·skip
  obtain⟨hi0,hs1,hsl⟩:=hI
  refine r_seq (r_sr (p_mv rfl rfl (p_mv rfl rfl (l_op (x_p (pv_lens (Rd.len hv) ⟨_,Tryz.underlying65⟩ (.n rfl) rfl rfl rfl rfl fR) rfl rfl (p_lss rfl rfl rfl (o_keep (kp [0,1,2,6,10] rfl) (r_cond _ rfl (fun h1=>?_) (fun h1=>?_)))))))))
  ·skip
   obtain⟨n,hn⟩:=getlt (l:=l) (i:=i) (by have:=of_decide_eq_true h1;omega)
   have hil:=(List.getElem?_eq_some_iff.1 hn).1
   have hn6:=hr n (List.mem_of_getElem? hn)
   have hit:=Lib.itoa_length_le n hn6.1 hn6.2
   refine r_skip (r_seq (r_block (r_region (p_mv rfl rfl (p_mv rfl rfl (p_mv rfl rfl (p_idx Tryz.underlying65 (.ofC tc_3) hv rfl (mapget hn) rfl rfl rfl ?_)))))))
   refine p_ldat 0 tc_3 (Rd.ent hv (eJ (by repeat constructor))) (mapget hn) rfl rfl rfl rfl ?_
   refine p_callv cf_33 (.c rfl .n) rfl (ref_num _ _ L n hn6) ?_
   refine l_op (x_p (pv_sadd (fun _=>by (try simp only[List.length_append,List.length_cons,List.length_nil]);omega) (.n rfl) rfl rfl rfl fS) rfl rfl ?_)
   refine l_op (x_p (pv_sadd (fun _=>by (try simp only[List.length_append,List.length_cons,List.length_nil]);omega) (.n rfl) rfl rfl rfl fS) rfl rfl ?_)
   refine p_as rfl rfl (o_keep (kp [0,1,2,6] rfl) (r_end (r_region (p_mv rfl rfl (p_add rfl rfl (by omega) rfl (p_as rfl rfl (o_keep (kp [0,1,2,6] rfl) ?_)))))))
   refine r_back_2 (i+1) (_) ?_ ?_ (Keep.app (kp [6,1] rfl) (kp [0,2] rfl)) ?_
   ·exact⟨by omega,by rw[numsL_take hn,hs1];simp,by simp;omega⟩
   ·omega
   ·apply eI;repeat constructor
  ·skip
   have hil:l.length≤i:=by have:=of_decide_eq_false h1;omega
   rw[List.take_of_length_le hil] at hs1
   refine r_exit rfl (r_region (p_mv rfl rfl (p_mv rfl rfl ?_)))
   refine p_callc cf_34 (.c rfl (.c rfl .n)) rfl (rdk_say _ b mb u s1 (by omega)) ?_
   refine o_keep (.n) ?_
   refine r_fallc hF rfl ?_
   ·rw[show u++listS s l=u++(s1++[10]) by rw[hs1];rfl];apply eI;repeat constructor
theorem kindL_1{k:Int}(h:k=1):[97,115,107]=kindL k:=by subst h;rfl
theorem kindL_2{k:Int}(h:k=2):[115,97,121]=kindL k:=by subst h;rfl
theorem kindL_3{k:Int}(h:k=3):[101,110,100]=kindL k:=by subst h;rfl
theorem kindL_4{k:Int}(h:k=4):[111,118,101,114]=kindL k:=by subst h;rfl
theorem cell0{M:Amb}{H R:List HP}{b:Nat}{v:Value}{cs:List Value}{T:TypeId}[s:SelB H b (v::cs) T R]:CellAt M H b 0 v:=fun w ho=>by
  have h:=(ho.ent s.ent)
  rw[h.cell];rfl
theorem rdk_mails (M:Amb)(L:LibOk M)(b mb:Nat)(u:List UInt8)(X:HP)(v:Value)(l:List Mail)(hv:Rd M [X] v 6 (l.map rM))(hk:∀ m∈l,Mr m)(hl:l.length≤1000)(hu:u.length≤1000000000000):FnC Tryz.prog M 42 [ptr b,v] (resVal []) [blk b [str (u),ptr mb] 50,X] [blk b [str (u++mailsS l),ptr mb] 50,X]:=by
 refine fnc_intro Tryz.func42 rfl Tryz.ntmps42 rfl fun R F hF=>?_
 refine r_cat ?_
 refine r_seq (r_sr (p_as rfl rfl (o_keep (kp [0,1,4] rfl) (r_block ?_))))
 refine r_loop_2 (fun (i:Nat) (u1:List UInt8)=>[(4,true,.int .i64 (i:Int))]) (kp [0,1] rfl) (fun (i:Nat) (u1:List UInt8)=>blk b [str (u1),ptr mb] 50::X::R) (fun (i:Nat) (u1:List UInt8)=>i≤l.length∧u1=u++mailsU (l.take i)∧u1.length≤u.length+200*i) (fun (i:Nat) (u1:List UInt8)=>l.length - i) (0) (u) ?_ (kp [4] rfl) ?_ (fun i u1 hI=>?_)
 ·exact⟨Nat.zero_le _,by simp[mailsU],by omega⟩
 ·apply eI;repeat constructor
 ·skip
  obtain⟨hi0,hU,hul⟩:=hI
  refine r_seq (r_sr (p_mv rfl rfl (p_mv rfl rfl (l_op (x_p (pv_lens (Rd.len hv) ⟨_,Tryz.underlying70⟩ (.n rfl) rfl rfl rfl rfl fR) rfl rfl (p_lss rfl rfl rfl (o_keep (kp [0,1,4,9] rfl) (r_cond _ rfl (fun h1=>?_) (fun h1=>?_)))))))))
  ·skip
   obtain⟨m,hm⟩:=getlt (l:=l) (i:=i) (by have:=of_decide_eq_true h1;omega)
   have hil:=(List.getElem?_eq_some_iff.1 hm).1
   have hmr:=hk m (List.mem_of_getElem? hm)
   have hk14:=hmr.1
   have hn1:=kind_len m.kind
   have hm6:=mail_i64 hmr
   have hd1:=hm6 m.deal (by simp)
   have hd2:=hm6 m.shop (by simp)
   have hd3:=hm6 m.ctr (by simp)
   have hd4:=hm6 m.dl (by simp)
   have hitl:=Lib.itoa_length_le (m.deal) hd1.1 hd1.2
   have hitl2:=Lib.itoa_length_le m.shop hd2.1 hd2.2
   have hitl3:=Lib.itoa_length_le m.ctr hd3.1 hd3.2
   have hitl4:=Lib.itoa_length_le m.dl hd4.1 hd4.2
   refine r_skip (r_seq (r_block (r_sr (p_as rfl rfl (o_keep (kp [0,1,4,5] rfl) (r_seq (r_sr ?_)))))))
   refine p_mv rfl rfl (p_mv rfl rfl (p_idx Tryz.underlying70 (.ofA ta_139) hv rfl (mapget hm) rfl rfl rfl (p_faat fa_139_0 (Rd.sh hv (mapget hm)) rfl rfl (p_ldat 0 tc_3 (Rd.ent hv (eJ (by repeat constructor))) (mapget hm) rfl rfl rfl rfl ?_))))
   refine o_keep (kp [0,1,4,5,16] rfl) ?_
   refine r_cut_1 (fun (s5:List UInt8)=>[(5,true,str s5)]) (kp [0,1,4] rfl) (fun (s5:List UInt8)=>blk b [str (u1),ptr mb] 50::X::R) (fun (s5:List UInt8)=>s5=kindL m.kind) ?_ (fun s5 hI=>?_)
   ·skip
    refine r_block (r_sr (p_eql rfl rfl rfl (p_as rfl rfl (o_keep (kp [0,1,4,5,16,17] rfl) (r_cond _ rfl (fun h2=>?_) (fun h2=>?_))))))
    ·skip
     have hkd:m.kind=1:=of_decide_eq_true h2
     refine r_region (p_as rfl rfl (o_keep (kp [0,1,4,5] rfl) (r_end ?_)))
     refine r_join_1 (_) ?_ (Keep.app (kp [5] rfl) (kp [0,1,4] rfl)) ?_
     ·exact kindL_1 hkd
     ·apply eI;repeat constructor
    ·skip
     have hk1:¬ m.kind=1:=of_decide_eq_false h2
     refine r_sr (p_eql rfl rfl rfl (p_as rfl rfl (o_keep (kp [0,1,4,5,16,19] rfl) (r_cond _ rfl (fun h3=>?_) (fun h3=>?_)))))
     ·skip
      have hkd:m.kind=2:=of_decide_eq_true h3
      refine r_region (p_as rfl rfl (o_keep (kp [0,1,4,5] rfl) (r_end ?_)))
      refine r_join_1 (_) ?_ (Keep.app (kp [5] rfl) (kp [0,1,4] rfl)) ?_
      ·exact kindL_2 hkd
      ·apply eI;repeat constructor
     ·skip
      have hk2:¬ m.kind=2:=of_decide_eq_false h3
      refine r_sr (p_eql rfl rfl rfl (p_as rfl rfl (o_keep (kp [0,1,4,5,16,21] rfl) (r_cond _ rfl (fun h4=>?_) (fun h4=>?_)))))
      ·skip
       have hkd:m.kind=3:=of_decide_eq_true h4
       refine r_region (p_as rfl rfl (o_keep (kp [0,1,4,5] rfl) (r_end ?_)))
       refine r_join_1 (_) ?_ (Keep.app (kp [5] rfl) (kp [0,1,4] rfl)) ?_
       ·exact kindL_3 hkd
       ·apply eI;repeat constructor
      ·skip
       have hk3:¬ m.kind=3:=of_decide_eq_false h4
       refine r_sr (p_eql rfl rfl rfl (p_as rfl rfl (o_keep (kp [0,1,4,5,23] rfl) (r_cond _ rfl (fun h5=>?_) (fun h5=>?_)))))
       ·skip
        have hkd:m.kind=4:=of_decide_eq_true h5
        refine r_region (p_as rfl rfl (o_keep (kp [0,1,4,5] rfl) (r_end ?_)))
        refine r_join_1 (_) ?_ (Keep.app (kp [5] rfl) (kp [0,1,4] rfl)) ?_
        ·exact kindL_4 hkd
        ·apply eI;repeat constructor
       ·exfalso;have hk4:¬ m.kind=4:=of_decide_eq_false h5;omega
   subst hI
   refine r_seq ?_
   refine r_plan _ [] mo (kp [0,1,4,5] rfl) Ent.rfl ?_
   refine yp 0 [.k 5] rfl rfl (by kernel_rfl) (u_mv rfl rfl rfl) (yp 1 [.k 1] rfl rfl (by kernel_rfl) (u_mv rfl rfl rfl) (yp 2 [.k 4] rfl rfl (by kernel_rfl) (u_mv rfl rfl rfl) (yp 3 [.o 1,.o 2] rfl rfl (by kernel_rfl) (pv_idx Tryz.underlying70 (.ofA ta_139) hv (fun hg=>⟨rfl,(mapget hm)⟩) (.n rfl) rfl rfl rfl fS) ?_)))
   refine yp 4 [.o 3] rfl rfl (by kernel_rfl) (pv_faat fa_139_1 (fun hg=>Rd.sh hv (mapget hm)) (.n rfl) rfl rfl fR) ?_
   refine yr 5 [.o 4] rfl rfl (by kernel_rfl) (fun He=>rv_ldat (j:=1) tc_3 (Rd.ent hv (eJ (by repeat constructor))) (fun hg=>(mapget hm)) (.n rfl) rfl rfl fR rfl fR) ?_
   refine yq 6 [.o 5] rfl rfl (by kernel_rfl) (fun He=>rq_call cf_33 (.n rfl) rfl (.c rfl fR .n) (fun hg=>ref_num _ _ L m.deal hd1)) ?_
   refine yp 7 [.o 6] rfl rfl (by kernel_rfl) (pv_sadd (fun _=>by (try simp only[List.length_append,List.length_cons,List.length_nil]);omega) (.n rfl) rfl rfl rfl fS) ?_
   refine yp 8 [.o 7] rfl rfl (by kernel_rfl) (pv_sadd (fun _=>by (try simp only[List.length_append,List.length_cons,List.length_nil]);omega) (.n rfl) rfl rfl rfl fS) ?_
   refine yp 9 [.k 1] rfl rfl (by kernel_rfl) (u_mv rfl rfl rfl) (yp 10 [.k 4] rfl rfl (by kernel_rfl) (u_mv rfl rfl rfl) (yp 11 [.o 9,.o 10] rfl rfl (by kernel_rfl) (pv_idx Tryz.underlying70 (.ofA ta_139) hv (fun hg=>⟨rfl,(mapget hm)⟩) (.n rfl) rfl rfl rfl fS) ?_))
   refine yp 12 [.o 11] rfl rfl (by kernel_rfl) (pv_faat fa_139_2 (fun hg=>Rd.sh hv (mapget hm)) (.n rfl) rfl rfl fR) ?_
   refine yr 13 [.o 12] rfl rfl (by kernel_rfl) (fun He=>rv_ldat (j:=2) tc_3 (Rd.ent hv (eJ (by repeat constructor))) (fun hg=>(mapget hm)) (.n rfl) rfl rfl fR rfl fR) ?_
   refine yq 14 [.o 13] rfl rfl (by kernel_rfl) (fun He=>rq_call cf_33 (.n rfl) rfl (.c rfl fR .n) (fun hg=>ref_num _ _ L m.shop hd2)) ?_
   refine yp 15 [.o 8,.o 14] rfl rfl (by kernel_rfl) (pv_sadd (fun _=>by (try simp only[List.length_append,List.length_cons,List.length_nil]);omega) (.n rfl) rfl rfl rfl fS) ?_
   refine yp 16 [.o 15] rfl rfl (by kernel_rfl) (pv_sadd (fun _=>by (try simp only[List.length_append,List.length_cons,List.length_nil]);omega) (.n rfl) rfl rfl rfl fS) ?_
   refine yp 17 [.k 1] rfl rfl (by kernel_rfl) (u_mv rfl rfl rfl) (yp 18 [.k 4] rfl rfl (by kernel_rfl) (u_mv rfl rfl rfl) (yp 19 [.o 17,.o 18] rfl rfl (by kernel_rfl) (pv_idx Tryz.underlying70 (.ofA ta_139) hv (fun hg=>⟨rfl,(mapget hm)⟩) (.n rfl) rfl rfl rfl fS) ?_))
   refine yp 20 [.o 19] rfl rfl (by kernel_rfl) (pv_faat fa_139_3 (fun hg=>Rd.sh hv (mapget hm)) (.n rfl) rfl rfl fR) (yp 21 [.o 20] rfl rfl (by kernel_rfl) (pv_faat fa_93_0 (fun hg=>Rd.sh hv (mapget hm)) (.n rfl) rfl rfl fR) ?_)
   refine yr 22 [.o 21] rfl rfl (by kernel_rfl) (fun He=>rv_ldat (j:=3) tc_3 (Rd.ent hv (eJ (by repeat constructor))) (fun hg=>(mapget hm)) (.n rfl) rfl rfl fR rfl fR) ?_
   refine yq 23 [.o 22] rfl rfl (by kernel_rfl) (fun He=>rq_call cf_33 (.n rfl) rfl (.c rfl fR .n) (fun hg=>ref_num _ _ L m.ctr hd3)) ?_
   refine yp 24 [.o 16,.o 23] rfl rfl (by kernel_rfl) (pv_sadd (fun _=>by (try simp only[List.length_append,List.length_cons,List.length_nil]);omega) (.n rfl) rfl rfl rfl fS) ?_
   refine yp 25 [.o 24] rfl rfl (by kernel_rfl) (pv_sadd (fun _=>by (try simp only[List.length_append,List.length_cons,List.length_nil]);omega) (.n rfl) rfl rfl rfl fS) ?_
   refine yp 26 [.k 1] rfl rfl (by kernel_rfl) (u_mv rfl rfl rfl) (yp 27 [.k 4] rfl rfl (by kernel_rfl) (u_mv rfl rfl rfl) (yp 28 [.o 26,.o 27] rfl rfl (by kernel_rfl) (pv_idx Tryz.underlying70 (.ofA ta_139) hv (fun hg=>⟨rfl,(mapget hm)⟩) (.n rfl) rfl rfl rfl fS) ?_))
   refine yp 29 [.o 28] rfl rfl (by kernel_rfl) (pv_faat fa_139_3 (fun hg=>Rd.sh hv (mapget hm)) (.n rfl) rfl rfl fR) (yp 30 [.o 29] rfl rfl (by kernel_rfl) (pv_faat fa_93_1 (fun hg=>Rd.sh hv (mapget hm)) (.n rfl) rfl rfl fR) ?_)
   refine yr 31 [.o 30] rfl rfl (by kernel_rfl) (fun He=>rv_ldat (j:=4) tc_3 (Rd.ent hv (eJ (by repeat constructor))) (fun hg=>(mapget hm)) (.n rfl) rfl rfl fR rfl fR) ?_
   refine yq 32 [.o 31] rfl rfl (by kernel_rfl) (fun He=>rq_call cf_33 (.n rfl) rfl (.c rfl fR .n) (fun hg=>ref_num _ _ L m.dl hd4)) ?_
   refine yp 33 [.o 25,.o 32] rfl rfl (by kernel_rfl) (pv_sadd (fun _=>by (try simp only[List.length_append,List.length_cons,List.length_nil]);omega) (.n rfl) rfl rfl rfl fS) ?_
   refine yp 34 [.o 0,.o 33] rfl rfl (by kernel_rfl) (pv_sadd (fun _=>by (try simp only[List.length_append,List.length_cons,List.length_nil]);omega) (.n rfl) rfl rfl rfl fS) ?_
   refine yp 35 [.o 34] rfl rfl (by kernel_rfl) (u_as rfl rfl rfl) ?_
   refine qm_n (by kernel_rfl) (by kernel_rfl) (by kernel_rfl) (by kernel_rfl) (kp [0,1,4,5] rfl) ?_
   refine r_seq (r_sr (p_mv rfl rfl (p_mv rfl rfl (p_idx Tryz.underlying70 (.ofA ta_139) hv rfl (mapget hm) rfl rfl rfl (p_faat fa_139_4 (Rd.sh hv (mapget hm)) rfl rfl (p_ldat 5 tc_4 (Rd.ent hv (eJ (by repeat constructor))) (mapget hm) rfl rfl rfl rfl ?_))))))
   refine o_keep (kp [0,1,4,5,64] rfl) (r_cond _ rfl (fun h6=>?_) (fun h6=>?_))
   ·skip
    have hy:m.yes=true:=h6
    refine r_region (p_mv rfl rfl ?_)
    refine l_op (x_p (pv_sadd (fun _=>by (try simp only[List.length_append,List.length_cons,List.length_nil]);omega) (.n rfl) rfl rfl rfl fS) rfl rfl ?_)
    refine p_as rfl rfl (o_keep (kp [0,1,4,5] rfl) (r_region (p_mv rfl rfl (p_mv rfl rfl ?_))))
    refine p_callc cf_34 (.c rfl (.c rfl .n)) rfl (rdk_say _ b mb u1 _ (by simp only[List.length_append,List.length_cons,List.length_nil];omega)) ?_
    refine o_keep (kp [0,1,4] rfl) (r_end (r_region (p_mv rfl rfl (p_add rfl rfl (by omega) rfl (p_as rfl rfl (o_keep (kp [0,1,4] rfl) ?_))))))
    refine r_back_2 (i+1) (u1++((kindL m.kind++([32]++Lib.itoa m.deal++[32]++Lib.itoa m.shop++[32]++Lib.itoa m.ctr++[32]++Lib.itoa m.dl)++[32,121,101,115])++[10])) ?_ ?_ (Keep.app (kp [4] rfl) (kp [0,1] rfl)) ?_
    ·exact⟨by omega,by rw[mailsU_take hm,hU];unfold mailS;rw[hy];simp[numsL],by simp only[List.length_append,List.length_cons,List.length_nil];omega⟩
    ·omega
    ·apply eI;repeat constructor
   ·skip
    have hy:m.yes=false:=h6
    refine r_skip (r_region (p_mv rfl rfl (p_mv rfl rfl ?_)))
    refine p_callc cf_34 (.c rfl (.c rfl .n)) rfl (rdk_say _ b mb u1 _ (by simp only[List.length_append,List.length_cons,List.length_nil];omega)) ?_
    refine o_keep (kp [0,1,4] rfl) (r_end (r_region (p_mv rfl rfl (p_add rfl rfl (by omega) rfl (p_as rfl rfl (o_keep (kp [0,1,4] rfl) ?_))))))
    refine r_back_2 (i+1) (u1++((kindL m.kind++([32]++Lib.itoa m.deal++[32]++Lib.itoa m.shop++[32]++Lib.itoa m.ctr++[32]++Lib.itoa m.dl))++[10])) ?_ ?_ (Keep.app (kp [4] rfl) (kp [0,1] rfl)) ?_
    ·exact⟨by omega,by rw[mailsU_take hm,hU];unfold mailS;rw[hy];simp[numsL],by simp only[List.length_append,List.length_cons,List.length_nil];omega⟩
    ·omega
    ·apply eI;repeat constructor
  ·skip
   have hil:l.length≤i:=by have:=of_decide_eq_false h1;omega
   rw[List.take_of_length_le hil] at hU
   refine r_exit rfl (r_region (p_mv rfl rfl ?_))
   refine p_callc cf_34 (.c rfl (.c rfl .n)) rfl (rdk_say _ b mb u1 [101,110,100] (by simp only[List.length_append,List.length_cons,List.length_nil];omega)) ?_
   refine o_keep (.n) ?_
   refine r_fallc hF rfl ?_
   ·rw[show u++mailsS l=u1++([101,110,100]++[10]) by rw[hU,List.append_assoc];rfl];apply eI;repeat constructor
def WdI (s:List UInt8)(i:Nat)(W:List (List UInt8))(w:List UInt8):Prop:=(i≤s.length∧W++wordsW w (s.drop i)=wordsL s)∨(i=s.length+1∧W=wordsL s∧w=[])
theorem WdI.start (s:List UInt8):WdI s 0 [] []:=.inl ⟨Nat.zero_le _,by rw[List.drop_zero,wordsW_nil];rfl⟩
theorem WdI.char{s:List UInt8}{i:Nat}{W:List (List UInt8)}{w:List UInt8}{c:UInt8}(h:WdI s i W w)(hi:s[i]?=some c)(hc:c≠32):WdI s (i+1) W (w++[c]):=by
  have hil:=(List.getElem?_eq_some_iff.1 hi).1
  rcases h with ⟨_,h⟩|⟨h,_⟩
  · rw[drop_at hi,wordsW_c hc] at h
    exact .inl ⟨hil,h⟩
  · omega
theorem WdI.blank{s:List UInt8}{i:Nat}{W:List (List UInt8)}{w:List UInt8}(h:WdI s i W w)(hle:i≤s.length)(hc:∀ c,s[i]?=some c→c=32):WdI s (i+1) (W++if w=[] then [] else [w]) []:=by
  rcases h with ⟨_,h⟩|⟨h,_⟩
  · by_cases hil:i<s.length
    · have hi:s[i]?=some s[i]:=List.getElem?_eq_getElem hil
      have h32:=hc _ hi
      rw[h32] at hi
      rw[drop_at hi,wordsW_s,← List.append_assoc] at h
      exact .inl ⟨hil,h⟩
    · have he:i=s.length:=by omega
      subst he
      rw[List.drop_length,wordsW_e] at h
      exact .inr ⟨rfl,h,rfl⟩
  · omega
theorem WdI.done{s:List UInt8}{i:Nat}{W:List (List UInt8)}{w:List UInt8}(h:WdI s i W w)(hle:¬ i≤s.length):W=wordsL s:=by
  rcases h with ⟨h,_⟩|⟨_,h,_⟩
  · exact absurd h hle
  · exact h
theorem one_at{s:List UInt8}{i:Nat}{c:UInt8}(h:s[i]?=some c):(s.take (i+1)).drop i=[c]:=by
  have hil:=(List.getElem?_eq_some_iff.1 h).1
  rw[List.take_add_one,h,List.drop_append_of_le_length (by simp;omega),List.drop_eq_nil_of_le (by simp;omega)];rfl
theorem u8_ne{c:UInt8}(h:¬ (c.toNat:Int)=32):c≠32:=fun e=>h (by rw[e];rfl)
theorem u8_eq{c:UInt8}(h:(c.toNat:Int)=32):c=32:=UInt8.toNat_inj.1 (by show c.toNat=32;omega)
theorem ref_Words (M:Amb)(s:List UInt8)(hs:s.length≤20000):FnE (α:=Value) Tryz.prog M 32 [str s] [] (fun x=>x) (fun x=>[sl x 9 1 ((wordsL s).map rS)]):=by
 refine fne_intro Tryz.func32 rfl Tryz.ntmps32 rfl fun R F hF=>?_
 refine r_cat ?_
 refine r_sr (p_as rfl rfl (o_keep (kp [0,2] rfl) (r_sr (p_as rfl rfl (o_keep (kp [0,2,3] rfl) (r_sr (p_as rfl rfl ?_)))))))
 refine o_keep (kp [0,2,3,4] rfl) (r_seq (r_sr (p_as rfl rfl (o_keep (kp [0,2,3,4,5] rfl) (r_block ?_)))))
 refine r_loop_4 (fun (i:Nat) (wv:Value) (W:List (List UInt8)) (w:List UInt8)=>[(5,true,.int .i64 (i:Int)),(3,true,wv),(4,true,str w)]) (kp [0,2] rfl) (fun (i:Nat) (wv:Value) (W:List (List UInt8)) (w:List UInt8)=>sl wv 9 1 (W.map rS)::R) (fun (i:Nat) (wv:Value) (W:List (List UInt8)) (w:List UInt8)=>WdI s i W w∧i≤s.length+1∧w.length≤i∧W.length≤i) (fun (i:Nat) (wv:Value) (W:List (List UInt8)) (w:List UInt8)=>s.length+1 - i) (0) (.slice Option.none 0 0) ([]) ([]) ?_ (kp [5,3,4] rfl) ?_ (fun i wv W w hI=>?_)
 ·exact⟨WdI.start s,by omega,by simp,by simp⟩
 ·apply eI;repeat constructor
 ·skip
  obtain⟨hI,hi1,hwl,hWl⟩:=hI
  refine r_seq (r_sr (p_mv rfl rfl (p_mv rfl rfl (l_op (x_p (pv_slen Tryz.underlying9 (.n rfl) rfl rfl rfl rfl fR) rfl rfl (p_leq rfl rfl rfl (o_keep (kp [0,2,3,4,5,9] rfl) (r_cond _ rfl (fun h1=>?_) (fun h1=>?_)))))))))
  ·skip
   have hle:i≤s.length:=by have:=of_decide_eq_true h1;omega
   obtain⟨c,hc⟩:∃ c,i<s.length→s[i]?=some c:=by by_cases h:i<s.length;exact⟨s[i],fun _=>List.getElem?_eq_getElem h⟩;exact⟨0,fun h2=>absurd h2 h⟩
   refine r_rd wv fun hrw=>?_
   refine r_skip (r_seq (r_block (r_seq (r_sr (p_mv rfl rfl (p_mv rfl rfl (l_op (x_p (pv_slen Tryz.underlying9 (.n rfl) rfl rfl rfl rfl fR) rfl rfl ?_))))))))
   refine p_lss rfl rfl rfl (p_mv rfl rfl (l_op (x_p (pv_mv (.s rfl rfl rfl) rfl rfl gA) rfl rfl (l_op (x_p (pv_mv (.s rfl rfl rfl) rfl rfl gA) rfl rfl ?_)))))
   refine l_op (x_p (pv_sidx (i:=i) Tryz.underlying9 (fun hg=>rfl) (fun hg=>hc (by simp at hg;omega)) (.s rfl rfl rfl) rfl rfl rfl gB) rfl rfl ?_)
   refine l_op (x_p (pv_neq (.s rfl rfl rfl) rfl rfl rfl gB) rfl rfl ?_)
   refine l_op (x_p (pv_and (.n rfl) rfl rfl rfl (fun _=>⟨rfl,fun hc=>by first|rfl|(rw[hc];rfl)|simp_all⟩)) rfl rfl ?_)
   refine o_keep (kp [0,2,3,4,5,21] rfl) (r_cond _ rfl (fun h2=>?_) (fun h2=>?_))
   ·skip
    have hcc:i<s.length∧¬ (c.toNat:Int)=32:=by simp at h2;exact⟨by have:=h2.1;omega,by have:=h2.2;omega⟩
    obtain⟨hlt,hc32⟩:=hcc
    have hci:=hc hlt
    have hoa:=one_at hci
    have hol:((s.take (i+1)).drop i).length≤1:=by rw[hoa];simp
    have hnx:=hI.char hci (u8_ne hc32)
    refine r_sr (p_mv rfl rfl (p_mv rfl rfl (p_mv rfl rfl (p_mv rfl rfl (p_add rfl rfl (by omega) rfl (l_op (x_p (pv_sslc (l:=i) (h:=i+1) Tryz.underlying9 (fun _=>by omega) (fun _=>by omega) (.n rfl) rfl rfl rfl rfl (fun _=>⟨rfl,rfl,rfl⟩)) rfl rfl ?_)))))))
    refine l_op (x_p (pv_sadd (fun _=>by (try simp only[List.length_append,List.length_cons,List.length_nil]);omega) (.n rfl) rfl rfl rfl fS) rfl rfl ?_)
    refine p_as rfl rfl (o_keep (kp [0,2,3,4,5] rfl) ?_)
    rw[hoa]
    refine r_exit rfl (r_region (p_mv rfl rfl (p_add rfl rfl (by omega) rfl (p_as rfl rfl (o_keep (kp [0,2,3,4,5] rfl) ?_)))))
    refine r_back_4 (i+1) (wv) (W) (w++[c]) ?_ ?_ (Keep.app (kp [5,3,4] rfl) (kp [0,2] rfl)) ?_
    ·exact⟨hnx,by omega,by simp;omega,by omega⟩
    ·omega
    ·apply eI;repeat constructor
   ·skip
    have hbl:∀ x,s[i]?=some x→x=32:=fun x hx=>by have hlt:=(List.getElem?_eq_some_iff.1 hx).1;have hci:=hc hlt;rw[hx] at hci;cases hci;simp at h2;exact u8_eq (by have:=h2 (by omega);omega)
    have hnx:=hI.blank hle hbl
    refine r_skip (r_seq (r_sr (p_mv rfl rfl (l_op (x_p (pv_sne (.n rfl) rfl rfl rfl fS) rfl rfl (o_keep (kp [0,2,3,4,5,30] rfl) (r_cond _ rfl (fun h3=>?_) (fun h3=>?_))))))))
    ·skip
     have hw0:¬ w=[]:=by simpa using h3
     rw[if_neg hw0] at hnx
     refine r_region (p_mv rfl rfl (p_mv rfl rfl ?_))
     refine p_bsl Tryz.underlying22 (.ofC tc_9) zr_9 (.c rfl rfl rfl .n) (rows:=([w]:List (List UInt8)).map rS) rfl rfl rfl rfl fun b33 hr33=>?_
     refine p_append Tryz.underlying22 el_9 rfl rfl rfl rfl rfl ((Rd.ent hr33 (eJ (by repeat constructor)))) (by simp;omega) fun v34=>?_
     refine o_rd v34 fun hr34=>?_
     refine p_as rfl rfl (o_keep (kp [0,2,3,4,5] rfl) (r_region (p_as rfl rfl (o_keep (kp [0,2,3,4,5] rfl) (r_end (r_region (p_mv rfl rfl ?_)))))))
     refine p_add rfl rfl (by omega) rfl (p_as rfl rfl (o_keep (kp [0,2,3,4,5] rfl) ?_))
     refine r_back_4 (i+1) (v34) (W++[w]) ([]) ?_ ?_ (Keep.app (kp [5,3,4] rfl) (kp [0,2] rfl)) ?_
     ·exact⟨hnx,by omega,by simp,by simp;omega⟩
     ·omega
     ·simp only[List.map_append,List.map_cons,List.map_nil];apply eI;repeat constructor
    ·skip
     have hw0:w=[]:=by simpa using h3
     rw[if_pos hw0,List.append_nil] at hnx
     refine r_skip (r_region (p_as rfl rfl (o_keep (kp [0,2,3,4,5] rfl) (r_end (r_region (p_mv rfl rfl (p_add rfl rfl (by omega) rfl ?_)))))))
     refine p_as rfl rfl (o_keep (kp [0,2,3,4,5] rfl) ?_)
     refine r_back_4 (i+1) (wv) (W) ([]) ?_ ?_ (Keep.app (kp [5,3,4] rfl) (kp [0,2] rfl)) ?_
     ·exact⟨hnx,by omega,by simp,by omega⟩
     ·omega
     ·apply eI;repeat constructor
  ·skip
   have hle:¬ i≤s.length:=by have:=of_decide_eq_false h1;omega
   have hWd:=hI.done hle
   refine r_exit rfl (r_sr (p_mv rfl rfl (p_as rfl rfl (o_keep (kp [2] rfl) ?_))))
   refine r_rete (wv) hF rfl (.c (.t rfl) .n) ?_ ?_
   ·rw[← hWd];apply eI;repeat constructor
   ·rfl
theorem rdk_is (M:Amb)(H:List HP)(lb nb:Nat)(wv nv:Value)(w0:List UInt8)(ws:List (List UInt8))(ns:List Int)(hl:CellAt M H lb 0 wv)(hn:CellAt M H nb 0 nv)(hw:Rd M H wv 1 ((w0::ws).map rS))(hnv:Rd M H nv 1 (ns.map rI))(w:List UInt8)(k:Int):FnV Tryz.prog M H 35 [str w,.int .i64 k,ptr lb,ptr nb] (.bool (decide (w0=w)&&decide ((ns.length:Int)=k))):=by
 have hw0:(w0::ws)[0]?=some w0:=rfl
 refine fn_intro Tryz.func35 rfl Tryz.ntmps35 rfl fun F hF=>?_
 refine r_sr (p_as rfl rfl (o_keep (kp [0,1,2,3,6] rfl) (r_sr (l_op (x_r (rv_ldc tc_22 hl (.n rfl) rfl rfl fR) rfl rfl ?_)))))
 refine p_idx Tryz.underlying22 (.ofC tc_9) hw rfl (mapget hw0) rfl rfl rfl (p_ldat 0 tc_9 (Rd.ent hw (eJ (by repeat constructor))) (mapget hw0) rfl rfl rfl rfl ?_)
 refine p_mv rfl rfl (l_op (x_p (pv_seq (.n rfl) rfl rfl rfl fS) rfl rfl (p_mv rfl rfl (l_op (x_r (rv_ldc tc_65 hn (.s rfl rfl rfl) rfl rfl fR) rfl rfl ?_)))))
 refine l_op (x_p (pv_lens (Rd.len hnv) ⟨_,Tryz.underlying65⟩ (.s rfl rfl rfl) rfl rfl rfl rfl gA) rfl rfl (l_op (x_p (pv_mv (.s rfl rfl rfl) rfl rfl gA) rfl rfl ?_)))
 refine l_op (x_p (pv_eql (.s rfl rfl rfl) rfl rfl rfl gB) rfl rfl ?_)
 refine l_op (x_p (pv_and (.n rfl) rfl rfl rfl (fun _=>⟨rfl,fun hc=>by first|rfl|(rw[hc];rfl)|simp_all⟩)) rfl rfl ?_)
 refine p_as rfl rfl (o_keep (kp [6] rfl) ?_)
 refine r_retv hF rfl (.c (.t rfl) .n) ?_ ?_
 ·apply eI;repeat constructor
 ·rfl
end Go.Proofs.YtmakdilmibjpbaaGreatDoor
namespace Go.Proofs.YtmakdilmibjpbaaGreatDoor
open Go Go.RowKit
set_option linter.unusedVariables false
set_option linter.unusedSimpArgs false
set_option maxRecDepth 20000
theorem is_t{a b:List UInt8}{n k:Nat}(h:(decide (a=b)&&decide ((n:Int)=(k:Int)))=true):a=b∧n=k:=by
  simp only[Bool.and_eq_true,decide_eq_true_eq] at h;exact⟨h.1,by omega⟩
theorem is_f{a b:List UInt8}{n k:Nat}(h:(decide (a=b)&&decide ((n:Int)=(k:Int)))=false):¬ (a=b∧n=k):=by
  rintro⟨rfl,rfl⟩;simp at h
theorem market_StepW (M:Amb)(b:Nat)(t:TownS)(hT:TInv t)(k n:Int)(wv:Value)(ws:List Want)(hb:ws.length≤100000):FnC Tryz.prog M 36 [ptr b,.agg #[.int .i64 k,.int .i64 n,wv]] (.int .i64 (stepT t ⟨k,n,ws⟩).2) [marketP b t,sl wv 93 2 (ws.map rW)] [marketP b (stepT t ⟨k,n,ws⟩).1,sl wv 93 2 (ws.map rW)]:=fun R w ho=>by
  have hr:Rd M [sl wv 93 2 (ws.map rW)] wv 2 (ws.map rW):=sl_rd (R:=marketP b t::R) (ho.ent (Ent.swap))
  exact market_Step M (sl wv 93 2 (ws.map rW)::R) b t hT ⟨k,n,wv,ws⟩ (hr.ent (Ent.one Ent.h)) hb w ho
theorem rdk_line (M:Amb)(L:LibOk M)(b mb:Nat)(u:List UInt8)(t:TownS)(hD:DInv t)(s:List UInt8)(hs:s.length≤20000)(hu:u.length≤1000000000):FnC Tryz.prog M 18 [ptr b,str s] (resVal []) [blk b [str (u),ptr mb] 50,marketP mb t] [blk b [str (u++(lineT t s).2),ptr mb] 50,marketP mb (lineT t s).1]:=by
 have hsl:=spl_len s
 have hwl:=wordsL_len s
 have hTI:=hD.ti
 have hc6:=calm_i64 t
 have hitl:=Lib.itoa_length_le ((calmT t).2) hc6.1 hc6.2
 have hsi:∀ n,(Lib.itoa (stateB t.b n)).length≤21:=fun n=>Lib.itoa_length_le _ (hTI.b.state n).1 (hTI.b.state n).2
 obtain⟨hs0,hs6,hs7⟩:=hD.serial
 have hw6:=worldT_len hTI.len
 have hnw:=numsL_len hD.world
 have hns:=numsL_len hs7
 have hno:=numsL_len hTI.b.order
 have ho8:=hTI.b.ord_le
 have hm40:=hTI.full
 have hd32:=hTI.b.due_len
 have hlen3:=hTI.len
 refine fnc_intro Tryz.func18 rfl Tryz.ntmps18 rfl fun R F hF=>?_
 refine r_cat ?_
 refine r_sr (p_mv rfl rfl ?_)
 refine p_calle cf_32 (.c rfl .n) rfl (ref_Words _ s hs) fun wv=>?_
 refine o_cat ?_
 refine o_rd wv fun hrw=>?_
 refine p_alloc zr_22 rfl fun b4=>?_
 refine p_store (.ofC tc_22) rfl rfl hrw.c1 rfl hrw.o1 (by repeat constructor) ?_
 refine o_keep (kp [0,4] rfl) (r_seq (r_seq ?_))
 rcases hws:wordsL s with _|⟨w0,ws⟩
 ·skip
  have hln:=lineT_0 (t:=t) hws
  rw[hws] at hrw
  refine r_region (p_ldc tc_22 rfl (by rfl) rfl ?_)
  refine l_op (x_p (pv_lens (Rd.len hrw) ⟨_,Tryz.underlying22⟩ (.n rfl) rfl rfl rfl rfl fR) rfl rfl (p_eql rfl rfl rfl (o_keep (kp [0,4,24] rfl) (r_cond _ rfl (fun h1=>?_) (fun h1=>?_)))))
  ·skip
   refine r_retv hF rfl .n ?_ ?_
   ·rw[hln];rw[List.append_nil];apply eI;repeat constructor
   ·rfl
  ·exact absurd rfl (of_decide_eq_false h1)
 ·skip
  rw[hws] at hrw
  have hlw:ws.length+1≤s.length+1:=by rw[hws] at hwl;exact hwl
  have hw0:(w0::ws)[0]?=some w0:=rfl
  refine r_region (p_ldc tc_22 rfl (by rfl) rfl ?_)
  refine l_op (x_p (pv_lens (Rd.len hrw) ⟨_,Tryz.underlying22⟩ (.n rfl) rfl rfl rfl rfl fR) rfl rfl (p_eql rfl rfl rfl (o_keep (kp [0,4,24] rfl) (r_cond _ rfl (fun h2=>?_) (fun h2=>?_)))))
  ·exfalso;have hd:=of_decide_eq_true h2;rw[List.length_cons] at hd;omega
  ·skip
   refine r_skip (r_sr (p_alloc zr_65 rfl fun b5=>?_))
   refine o_keep (kp [0,4,5] rfl) (r_seq (r_sr (p_as rfl rfl (o_keep (kp [0,4,5,6] rfl) (r_block ?_)))))
   refine r_loop_3 (fun (i:Nat) (nv:Value) (ns:List Int)=>[(6,true,.int .i64 ((i+1:Nat):Int))]) (kp [0,4,5] rfl) (fun (i:Nat) (nv:Value) (ns:List Int)=>sl nv 3 1 (ns.map rI)::blk b5 [nv] 65::sl wv 9 1 ((w0::ws).map rS)::blk b4 [wv] 22::blk b [str (u),ptr mb] 50::marketP mb t::R) (fun (i:Nat) (nv:Value) (ns:List Int)=>i≤ws.length∧ns.length=i∧parseL (ws.take i)=some ns) (fun (i:Nat) (nv:Value) (ns:List Int)=>ws.length - i) (0) (.slice Option.none 0 0) ([]) ?_ (kp [6] rfl) ?_ (fun i nv ns hI=>?_)
   ·exact⟨Nat.zero_le _,rfl,rfl⟩
   ·apply eI;repeat constructor
   ·skip
    obtain⟨hi0,hnl,hP⟩:=hI
    refine r_seq (r_sr (p_mv rfl rfl (p_ldc tc_22 rfl (by rfl) rfl ?_)))
    refine l_op (x_p (pv_lens (Rd.len hrw) ⟨_,Tryz.underlying22⟩ (.n rfl) rfl rfl rfl rfl fR) rfl rfl (p_lss rfl rfl rfl (o_keep (kp [0,4,5,6,28] rfl) (r_cond _ rfl (fun h3=>?_) (fun h3=>?_)))))
    ·skip
     obtain⟨w,hw⟩:=getlt (l:=ws) (i:=i) (by have:=of_decide_eq_true h3;rw[List.length_cons] at this;omega)
     have hil:=(List.getElem?_eq_some_iff.1 hw).1
     have hw1:(w0::ws)[i+1]?=some w:=hw
     have hwm:w.length≤s.length:=wordsL_mem (by rw[hws];exact List.mem_cons_of_mem _ (List.mem_of_getElem? hw))
     refine r_skip (r_seq (r_block (r_seq ?_)))
     rcases (show (∃ v,Lib.atoiAll w=.ok v)∨∀ v,Lib.atoiAll w≠.ok v from by by_cases h:∃ v,Lib.atoiAll w=.ok v;exact .inl h;exact .inr fun v hv=>h ⟨v,hv⟩) with ⟨v,hat⟩|hat
     ·skip
      have hv64:i64 v:=Lib.atoiAll_bounds hat
      have hitl:=Lib.itoa_length_le (v) hv64.1 hv64.2
      have hpa:=parseN_at hat
      refine r_region (p_ldc tc_22 rfl (by rfl) rfl ?_)
      refine p_mv rfl rfl (p_idx Tryz.underlying22 (.ofC tc_9) hrw rfl (mapget hw1) rfl rfl rfl (p_ldat 0 tc_9 (Rd.ent hrw (eJ (by repeat constructor))) (mapget hw1) rfl rfl rfl rfl ?_))
      refine p_callv cf_27 (.c rfl .n) rfl (lib_Atoi_ok _ w (by omega) hat) ?_
      refine p_mv rfl rfl (p_ext rfl rfl rfl (p_ext rfl rfl rfl (p_as rfl rfl (p_as rfl rfl (o_keep (kp [0,4,5,6,7,8] rfl) (r_seq (r_seq ?_)))))))
      refine r_plan _ [] mo (kp [0,4,5,6,7,8] rfl) Ent.rfl ?_
      refine yp 0 [.k 8] rfl rfl (by kernel_rfl) (u_mv rfl rfl rfl) (yp 1 [.o 0] rfl rfl (by kernel_rfl) (pv_inil0 Tryz.underlying80 (.n rfl) rfl rfl fR) (yp 2 [.o 1] rfl rfl (by kernel_rfl) (u_mv rfl rfl rfl) ?_))
      refine yp 3 [.k 7,.o 2] rfl rfl (by kernel_rfl) (pv_mv (.s rfl rfl rfl) rfl rfl gA) ?_
      refine yq 4 [.o 3,.o 2] rfl rfl (by kernel_rfl) (fun He=>rq_call cf_33 (.s rfl rfl rfl) rfl (.c rfl gA .n) (fun hg=>ref_num _ _ L v hv64)) ?_
      refine yr 5 [.k 4,.o 2] rfl rfl (by kernel_rfl) (fun He=>q_ldc tc_22 (.s rfl rfl rfl) rfl rfl gA (by rfl)) ?_
      refine yp 6 [.k 6,.o 2] rfl rfl (by kernel_rfl) (pv_mv (.s rfl rfl rfl) rfl rfl gA) ?_
      refine yp 7 [.o 5,.o 6,.o 2] rfl rfl (by kernel_rfl) (pv_idx Tryz.underlying22 (.ofC tc_9) hrw (fun hg=>⟨rfl,(mapget hw1)⟩) (.s rfl rfl rfl) rfl rfl rfl gB) ?_
      refine yr 8 [.o 7,.o 2] rfl rfl (by kernel_rfl) (fun He=>rv_ldat (j:=0) tc_9 (Rd.ent hrw (eJ (by repeat constructor))) (fun hg=>(mapget hw1)) (.s rfl rfl rfl) rfl rfl gA rfl fR) ?_
      refine yp 9 [.o 4,.o 8,.o 2] rfl rfl (by kernel_rfl) (pv_sne (.s rfl rfl rfl) rfl rfl rfl gB) ?_
      refine yp 10 [.o 2,.o 9] rfl rfl (by kernel_rfl) (pv_or (.n rfl) rfl rfl rfl (fun _=>⟨rfl,fun hc=>by first|rfl|(rw[hc];rfl)|simp_all⟩)) ?_
      refine qm_n (by kernel_rfl) (by kernel_rfl) (by kernel_rfl) (by kernel_rfl) (kp [0,4,5,6,7,49] rfl) ?_
      refine r_cond _ rfl (fun h4=>?_) (fun h4=>?_)
      ·skip
       have hne:¬ Lib.itoa v=w:=by simpa using h4
       rw[if_neg hne] at hpa
       have hln:=lineT_no (t:=t) hws (parseN_none hw hpa)
       refine r_sr (p_mv rfl rfl ?_)
       refine p_callc cf_34 (.c rfl (.c rfl .n)) rfl (rdk_say _ b mb u [119,104,97,116] (by simp;omega)) ?_
       refine o_keep (kp [0,4,5,6,7] rfl) ?_
       refine r_retv hF rfl .n ?_ ?_
       ·rw[hln];apply eI;repeat constructor
       ·rfl
      ·skip
       have heq:Lib.itoa v=w:=by simpa using h4
       rw[if_pos heq] at hpa
       have hP2:=parseL_next hP hw hpa
       refine r_skip (r_region (p_ldc tc_65 rfl (by rfl) rfl ?_))
       refine p_mv rfl rfl ?_
       refine p_bsl Tryz.underlying65 (.ofC tc_3) zr_3 (.c rfl rfl rfl .n) (rows:=([v]:List Int).map rI) rfl rfl rfl rfl fun b54 hr54=>?_
       refine p_append Tryz.underlying65 el_3 rfl rfl rfl rfl rfl ((Rd.ent hr54 (eJ (by repeat constructor)))) (by simp;omega) fun v55=>?_
       refine o_rd v55 fun hr55=>?_
       refine p_store (.ofC tc_65) rfl rfl hr55.c1 rfl hr55.o1 (by repeat constructor) ?_
       refine o_keep (kp [0,4,5,6] rfl) (r_end (r_region (p_mv rfl rfl (p_add rfl rfl (by omega) rfl (p_as rfl rfl (o_keep (kp [0,4,5,6] rfl) ?_))))))
       refine r_back_3 (i+1) (v55) (ns++[v]) ?_ ?_ (Keep.app (kp [6] rfl) (kp [0,4,5] rfl)) ?_
       ·exact⟨by omega,by simp;omega,hP2⟩
       ·omega
       ·simp only[List.map_append,List.map_cons,List.map_nil];apply eI;repeat constructor
     ·skip
      have hpn:=parseN_err hat
      have hln:=lineT_no (t:=t) hws (parseN_none hw hpn)
      refine r_region (p_ldc tc_22 rfl (by rfl) rfl ?_)
      refine p_mv rfl rfl (p_idx Tryz.underlying22 (.ofC tc_9) hrw rfl (mapget hw1) rfl rfl rfl (p_ldat 0 tc_9 (Rd.ent hrw (eJ (by repeat constructor))) (mapget hw1) rfl rfl rfl rfl ?_))
      refine p_calle cf_27 (.c rfl .n) rfl (lib_Atoi_no L w (by omega) hat) fun e1=>?_
      refine o_cat ?_
      refine p_mv rfl rfl (p_ext rfl rfl rfl (p_ext rfl rfl rfl (p_as rfl rfl (p_as rfl rfl (o_keep (kp [0,4,5,6,7,8] rfl) (r_seq (r_seq ?_)))))))
      refine r_plan _ [] mo (kp [0,4,5,6,7,8] rfl) Ent.rfl ?_
      refine yp 0 [.k 8] rfl rfl (by kernel_rfl) (u_mv rfl rfl rfl) (yp 1 [.o 0] rfl rfl (by kernel_rfl) (pv_inil Tryz.underlying80 (.n rfl) rfl rfl fR) (yp 2 [.o 1] rfl rfl (by kernel_rfl) (u_mv rfl rfl rfl) ?_))
      refine yp 3 [.k 7,.o 2] rfl rfl (by kernel_rfl) (pv_mv (.s rfl rfl rfl) rfl rfl gA) ?_
      refine yq 4 [.o 3,.o 2] rfl rfl (by kernel_rfl) (fun He=>rq_call cf_33 (.s rfl rfl rfl) rfl (.c rfl gA .n) (fun hg=>(absurd hg (by simp):FnV _ _ _ _ _ (str [])))) ?_
      refine yr 5 [.k 4,.o 2] rfl rfl (by kernel_rfl) (fun He=>q_ldc tc_22 (.s rfl rfl rfl) rfl rfl gA (by rfl)) ?_
      refine yp 6 [.k 6,.o 2] rfl rfl (by kernel_rfl) (pv_mv (.s rfl rfl rfl) rfl rfl gA) ?_
      refine yp 7 [.o 5,.o 6,.o 2] rfl rfl (by kernel_rfl) (pv_idx Tryz.underlying22 (.ofC tc_9) hrw (fun hg=>⟨rfl,(mapget hw1)⟩) (.s rfl rfl rfl) rfl rfl rfl gB) ?_
      refine yr 8 [.o 7,.o 2] rfl rfl (by kernel_rfl) (fun He=>rv_ldat (j:=0) tc_9 (Rd.ent hrw (eJ (by repeat constructor))) (fun hg=>(mapget hw1)) (.s rfl rfl rfl) rfl rfl gA rfl fR) ?_
      refine yp 9 [.o 4,.o 8,.o 2] rfl rfl (by kernel_rfl) (pv_sne (.s rfl rfl rfl) rfl rfl rfl gB) ?_
      refine yp 10 [.o 2,.o 9] rfl rfl (by kernel_rfl) (pv_or (.n rfl) rfl rfl rfl (fun _=>⟨rfl,fun hc=>by first|rfl|(rw[hc];rfl)|simp_all⟩)) ?_
      refine qm_n (by kernel_rfl) (by kernel_rfl) (by kernel_rfl) (by kernel_rfl) (kp [0,4,5,6,7,49] rfl) ?_
      refine r_cond _ rfl (fun h5=>?_) (fun h5=>?_)
      ·skip
       refine r_sr (p_mv rfl rfl ?_)
       refine p_callc cf_34 (.c rfl (.c rfl .n)) rfl (rdk_say _ b mb u [119,104,97,116] (by simp;omega)) ?_
       refine o_keep (kp [0,4,5,6,7] rfl) ?_
       refine r_retv hF rfl .n ?_ ?_
       ·rw[hln];apply eI;repeat constructor
       ·rfl
      ·simp at h5
    ·skip
     have hil:ws.length≤i:=by have:=of_decide_eq_false h3;rw[List.length_cons] at this;omega
     rw[List.take_of_length_le hil] at hP
     have hcm:=lineT_yes (t:=t) hws hP
     refine r_rd nv fun hrn=>?_
     have htm:(ns.length:Int).tmod 2=((ns.length % 2:Nat):Int):=rfl
     refine r_exit rfl (r_sr (l_op (x_p (pv_mkf rfl rfl (.c rfl (.c rfl .n))) rfl rfl (p_as rfl rfl (o_keep (kp [0,4,5,9] rfl) (r_sr ?_))))))
     refine p_build zr_91 pl_91 (.n) rfl ?_
     refine p_alloc zr_91 rfl fun b10=>?_
     refine p_store (.ofA ta_91) rfl rfl rfl rfl rfl (by repeat constructor) ?_
     refine o_keep (kp [0,4,5,9,10] rfl) (r_seq ?_)
     refine r_cut_4 (fun (xk xn:Int) (xv:Value) (xw:List Want)=>[]) (kp [0,5,9,10] rfl) (fun (xk xn:Int) (xv:Value) (xw:List Want)=>blk b10 [.int .i64 xk,.int .i64 xn,xv] 91::sl xv 93 2 (xw.map rW)::sl nv 3 1 (ns.map rI)::blk b5 [nv] 65::sl wv 9 1 ((w0::ws).map rS)::blk b4 [wv] 22::blk b [str (u),ptr mb] 50::marketP mb t::R) (fun (xk xn:Int) (xv:Value) (xw:List Want)=>xw.length≤100000∧(if xk=0 then stepK w0 ns=none else stepK w0 ns=some ⟨xk,xn,xw⟩)) ?_ (fun xk xn xv xw hI=>?_)
     ·skip
      refine r_block (r_sr (p_ldc tc_22 rfl (by rfl) rfl ?_))
      refine p_idx Tryz.underlying22 (.ofC tc_9) hrw rfl (mapget hw0) rfl rfl rfl (p_ldat 0 tc_9 (Rd.ent hrw (eJ (by repeat constructor))) (mapget hw0) rfl rfl rfl rfl ?_)
      refine l_op (x_p (pv_seq (.n rfl) rfl rfl rfl fS) rfl rfl (p_mv rfl rfl (l_op (x_r (q_ldc tc_65 (.s rfl rfl rfl) rfl rfl gA (by rfl)) rfl rfl ?_))))
      refine l_op (x_p (pv_lens (Rd.len hrn) ⟨_,Tryz.underlying65⟩ (.s rfl rfl rfl) rfl rfl rfl rfl gA) rfl rfl ?_)
      refine l_op (x_p (pv_rem (by intro hg;simp at hg;omega) (.s rfl rfl rfl) rfl rfl rfl gB) rfl rfl ?_)
      refine l_op (x_p (pv_eql (.s rfl rfl rfl) rfl rfl rfl gB) rfl rfl ?_)
      refine l_op (x_p (pv_and (.n rfl) rfl rfl rfl (fun _=>⟨rfl,fun hc=>by first|rfl|(rw[hc];rfl)|simp_all⟩)) rfl rfl ?_)
      refine p_as rfl rfl (o_keep (kp [0,5,9,10,58] rfl) (r_cond _ rfl (fun h6=>?_) (fun h6=>?_)))
      ·skip
       have hc:w0=[98,101,103,105,110]∧ns.length % 2=0:=by simp only[Bool.and_eq_true,decide_eq_true_eq] at h6;exact⟨h6.1,by have:=h6.2;omega⟩
       have hk:stepK w0 ns=some ⟨1,0,pairsL ns⟩:=by unfold stepK;rw[if_pos hc]
       refine r_sr (p_fa fa_91_0 rfl rfl ?_)
       refine p_store (.ofC tc_3) rfl rfl rfl rfl rfl (by repeat constructor) ?_
       refine o_keep (kp [0,5,9,10] rfl) (r_sr (p_as rfl rfl (o_keep (kp [0,5,9,10,11] rfl) (r_block ?_))))
       refine r_loop_3 (fun (i:Nat) (xv:Value) (xw:List Want)=>[(11,true,.int .i64 (i:Int))]) (kp [0,5,9,10] rfl) (fun (i:Nat) (xv:Value) (xw:List Want)=>blk b10 [.int .i64 1,.int .i64 0,xv] 91::sl xv 93 2 (xw.map rW)::sl nv 3 1 (ns.map rI)::blk b5 [nv] 65::sl wv 9 1 ((w0::ws).map rS)::blk b4 [wv] 22::blk b [str (u),ptr mb] 50::marketP mb t::R) (fun (i:Nat) (xv:Value) (xw:List Want)=>i≤ns.length∧i % 2=0∧xw++pairsL (ns.drop i)=pairsL ns∧2*xw.length≤i) (fun (i:Nat) (xv:Value) (xw:List Want)=>ns.length - i) (0) (.slice Option.none 0 0) ([]) ?_ (kp [11] rfl) ?_ (fun i xv xw hI=>?_)
       ·exact⟨Nat.zero_le _,rfl,rfl,by simp⟩
       ·apply eI;repeat constructor
       ·skip
        obtain⟨hi0,hi2,hp,hwl2⟩:=hI
        refine r_rd xv fun hrx=>?_
        refine r_seq (r_sr (p_mv rfl rfl (p_ldc tc_65 rfl (by rfl) rfl ?_)))
        refine l_op (x_p (pv_lens (Rd.len hrn) ⟨_,Tryz.underlying65⟩ (.n rfl) rfl rfl rfl rfl fR) rfl rfl (p_lss rfl rfl rfl (o_keep (kp [0,5,9,10,11,73] rfl) (r_cond _ rfl (fun h7=>?_) (fun h7=>?_)))))
        ·skip
         have hil2:i<ns.length:=by have:=of_decide_eq_true h7;omega
         obtain⟨x,hx2⟩:=getlt (l:=ns) (i:=i) hil2
         obtain⟨y,hy2⟩:=getlt (l:=ns) (i:=i+1) (by omega)
         rw[pairs_at hx2 hy2] at hp
         refine r_skip (r_seq (r_block ?_))
         refine r_plan (_) ([sl xv 93 2 (xw.map rW)]) mo (kp [0,5,9,10,11] rfl) (SelS.ent) ?_
         refine yp 0 [.k 10] rfl rfl (by kernel_rfl) (u_fa fa_91_2 rfl rfl rfl) (yr 1 [.o 0] rfl rfl (by kernel_rfl) (fun He=>u_ldc tc_89 rfl rfl rfl (by rfl)) ?_)
         refine yr 2 [.k 5] rfl rfl (by kernel_rfl) (fun He=>u_ldc tc_65 rfl rfl rfl (by rfl)) ?_
         refine yp 3 [.k 11] rfl rfl (by kernel_rfl) (u_mv rfl rfl rfl) (yp 4 [.o 2,.o 3] rfl rfl (by kernel_rfl) (pv_idx Tryz.underlying65 (.ofC tc_3) hrn (fun hg=>⟨rfl,(mapget hx2)⟩) (.n rfl) rfl rfl rfl fS) ?_)
         refine yr 5 [.o 4] rfl rfl (by kernel_rfl) (fun He=>rv_ldat (j:=0) tc_3 (Rd.ent hrn (eJ (by repeat constructor))) (fun hg=>(mapget hx2)) (.n rfl) rfl rfl fR rfl fR) ?_
         refine yr 6 [.k 5] rfl rfl (by kernel_rfl) (fun He=>u_ldc tc_65 rfl rfl rfl (by rfl)) ?_
         refine yp 7 [.k 11] rfl rfl (by kernel_rfl) (u_mv rfl rfl rfl) (yp 8 [.o 7] rfl rfl (by kernel_rfl) (pv_add (fun _=>by omega) (.n rfl) rfl rfl rfl fS) (yp 9 [.o 6,.o 8] rfl rfl (by kernel_rfl) (pv_idx Tryz.underlying65 (.ofC tc_3) hrn (fun hg=>⟨by omega,(mapget hy2)⟩) (.n rfl) rfl rfl rfl fS) ?_))
         refine yr 10 [.o 9] rfl rfl (by kernel_rfl) (fun He=>rv_ldat (j:=0) tc_3 (Rd.ent hrn (eJ (by repeat constructor))) (fun hg=>(mapget hy2)) (.n rfl) rfl rfl fR rfl fR) ?_
         refine yp 11 [.o 5,.o 10] rfl rfl (by kernel_rfl) (pv_build zr_93 pl_93 (.n rfl) rfl (.c rfl fR rfl rfl rfl (by repeat constructor) (.c rfl fR rfl rfl rfl (by repeat constructor) .n))) ?_
         refine qm_bslice1 Tryz.underlying89 (.ofA ta_93) zr_93 rfl (i:=12) [.o 11] (by kernel_rfl) (by kernel_rfl) rfl rfl rfl rfl (by kernel_rfl) (by kernel_rfl) ⟨_,.n rfl,rfl⟩ rfl rfl rfl rfl rfl rfl fun b88=>?_
         refine qa_append Tryz.underlying89 el_93 rfl rfl (i:=13) [.o 1,.o 12] (by kernel_rfl) (by kernel_rfl) rfl rfl rfl rfl (by kernel_rfl) (by kernel_rfl) ⟨_,.n rfl,rfl⟩ rfl rfl rfl (Rd.blit rfl rfl) (by simp;omega) fun v89=>?_
         refine qm_rd v89 fun hr89=>?_
         refine yp 14 [.k 10] rfl rfl (by kernel_rfl) (u_fa fa_91_2 rfl rfl rfl) ?_
         refine qb_store (.ofC tc_89) (i:=15) [.o 14,.o 13] (by kernel_rfl) (by kernel_rfl) rfl rfl rfl (by kernel_rfl) (by kernel_rfl) (by kernel_rfl) ⟨_,.n rfl,rfl⟩ rfl rfl rfl hr89.c1 rfl hr89.o1 (by repeat constructor) ?_
         refine qm_n (by kernel_rfl) (by kernel_rfl) (by kernel_rfl) (by kernel_rfl) (kp [0,5,9,10,11] rfl) ?_
         refine r_end (r_region (p_mv rfl rfl (p_add rfl rfl (by omega) rfl (p_as rfl rfl (o_keep (kp [0,5,9,10,11] rfl) ?_)))))
         refine r_back_3 (i+2) (v89) (xw++[⟨x,y⟩]) ?_ ?_ (Keep.app (kp [11] rfl) (kp [0,5,9,10] rfl)) ?_
         ·exact⟨by omega,by omega,by simpa using hp,by simp;omega⟩
         ·omega
         ·simp only[List.map_append,List.map_cons,List.map_nil];apply eI;repeat constructor
        ·skip
         have hil2:ns.length≤i:=by have:=of_decide_eq_false h7;omega
         rw[pairs_end (by omega),List.append_nil] at hp
         have hxw:=hp
         refine r_exit rfl (r_end ?_)
         refine r_join_4 (1) (0) (xv) (xw) ?_ (Keep.app (.n) (kp [0,5,9,10] rfl)) ?_
         ·exact⟨by omega,by rw[if_neg (by decide),hk,← hxw]⟩
         ·apply eI;repeat constructor
      ·skip
       have hs0:¬ (w0=[98,101,103,105,110]∧ns.length % 2=0):=fun hh=>by rw[hh.1] at h6;simp at h6;omega
       refine r_sr (p_mv rfl rfl ?_)
       refine l_op (x_q (rq_callf cf_35 (.n rfl) rfl rfl fR (.c rfl fR (.c rfl fR .n)) (fun hg=>rdk_is _ _ b4 b5 wv nv w0 ws ns cell0 cell0 (Rd.ent hrw (eJ (by repeat constructor))) (Rd.ent hrn (eJ (by repeat constructor))) [116,105,99,107] 0)) rfl rfl ?_)
       refine p_as rfl rfl (o_keep (kp [0,5,9,10,91] rfl) (r_cond _ rfl (fun h8=>?_) (fun h8=>?_)))
       ·skip
        have hc:=is_t (k:=0) h8
        have hk:stepK w0 ns=some ⟨2,0,[]⟩:=by unfold stepK;rw[if_neg hs0,if_pos hc]
        refine r_region (p_fa fa_91_0 rfl rfl ?_)
        refine p_store (.ofC tc_3) rfl rfl rfl rfl rfl (by repeat constructor) ?_
        refine o_keep (kp [0,5,9,10] rfl) (r_end ?_)
        refine r_join_4 (2) (0) (.slice Option.none 0 0) ([]) ?_ (Keep.app (.n) (kp [0,5,9,10] rfl)) ?_
        ·exact⟨by simp,by rw[if_neg (by decide)];exact hk⟩
        ·apply eI;repeat constructor
       ·skip
        have hs1:=is_f (k:=0) h8
        refine r_sr (p_mv rfl rfl ?_)
        refine l_op (x_q (rq_callf cf_35 (.n rfl) rfl rfl fR (.c rfl fR (.c rfl fR .n)) (fun hg=>rdk_is _ _ b4 b5 wv nv w0 ws ns cell0 cell0 (Rd.ent hrw (eJ (by repeat constructor))) (Rd.ent hrn (eJ (by repeat constructor))) [98,114,111,107,101,114] 0)) rfl rfl ?_)
        refine p_as rfl rfl (o_keep (kp [0,5,9,10,95] rfl) (r_cond _ rfl (fun h9=>?_) (fun h9=>?_)))
        ·skip
         have hc:=is_t (k:=0) h9
         have hk:stepK w0 ns=some ⟨8,0,[]⟩:=by unfold stepK;rw[if_neg hs0,if_neg hs1,if_pos hc]
         refine r_region (p_fa fa_91_0 rfl rfl ?_)
         refine p_store (.ofC tc_3) rfl rfl rfl rfl rfl (by repeat constructor) ?_
         refine o_keep (kp [0,5,9,10] rfl) (r_end ?_)
         refine r_join_4 (8) (0) (.slice Option.none 0 0) ([]) ?_ (Keep.app (.n) (kp [0,5,9,10] rfl)) ?_
         ·exact⟨by simp,by rw[if_neg (by decide)];exact hk⟩
         ·apply eI;repeat constructor
        ·skip
         have hs2:=is_f (k:=0) h9
         refine r_sr (p_mv rfl rfl ?_)
         refine l_op (x_q (rq_callf cf_35 (.n rfl) rfl rfl fR (.c rfl fR (.c rfl fR .n)) (fun hg=>rdk_is _ _ b4 b5 wv nv w0 ws ns cell0 cell0 (Rd.ent hrw (eJ (by repeat constructor))) (Rd.ent hrn (eJ (by repeat constructor))) [100,101,108,105,118,101,114] 1)) rfl rfl ?_)
         refine p_as rfl rfl (o_keep (kp [0,5,9,10,99] rfl) (r_cond _ rfl (fun h10=>?_) (fun h10=>?_)))
         ·skip
          have hc:=is_t (k:=1) h10
          obtain⟨x,hx⟩:=getlt (l:=ns) (i:=0) (by omega)
          have hx0:ns.getD 0 0=x:=by rw[List.getD_eq_getElem?_getD,hx];rfl
          have hk:stepK w0 ns=some ⟨3,x,[]⟩:=by unfold stepK;rw[if_neg hs0,if_neg hs1,if_neg hs2,if_pos hc,hx0]
          refine r_plan (_) ([blk b10 [.int .i64 0,.int .i64 0,.slice Option.none 0 0] 91]) mo (kp [0,5,9,10] rfl) (SelB.ent) ?_
          refine yr 0 [.k 5] rfl rfl (by kernel_rfl) (fun He=>u_ldc tc_65 rfl rfl rfl (by rfl)) ?_
          refine yp 1 [.o 0] rfl rfl (by kernel_rfl) (pv_idx Tryz.underlying65 (.ofC tc_3) hrn (fun hg=>⟨rfl,(mapget hx)⟩) (.n rfl) rfl rfl rfl fS) ?_
          refine yr 2 [.o 1] rfl rfl (by kernel_rfl) (fun He=>rv_ldat (j:=0) tc_3 (Rd.ent hrn (eJ (by repeat constructor))) (fun hg=>(mapget hx)) (.n rfl) rfl rfl fR rfl fR) ?_
          refine yp 3 [.k 10] rfl rfl (by kernel_rfl) (u_fa fa_91_0 rfl rfl rfl) ?_
          refine qm_store (.ofC tc_3) (i:=4) [.o 3] (by kernel_rfl) (by kernel_rfl) rfl rfl rfl (by kernel_rfl) (by kernel_rfl) ⟨_,.n rfl,rfl⟩ rfl rfl rfl rfl rfl rfl (by repeat constructor) ?_
          refine yp 5 [.k 10] rfl rfl (by kernel_rfl) (u_fa fa_91_1 rfl rfl rfl) ?_
          refine qb_store (.ofC tc_3) (i:=6) [.o 5,.o 2] (by kernel_rfl) (by kernel_rfl) rfl rfl rfl (by kernel_rfl) (by kernel_rfl) (by kernel_rfl) ⟨_,.n rfl,rfl⟩ rfl rfl rfl rfl rfl rfl (by repeat constructor) ?_
          refine qm_n (by kernel_rfl) (by kernel_rfl) (by kernel_rfl) (by kernel_rfl) (kp [0,5,9,10] rfl) ?_
          refine r_end ?_
          refine r_join_4 (3) (x) (.slice Option.none 0 0) ([]) ?_ (Keep.app (.n) (kp [0,5,9,10] rfl)) ?_
          ·exact⟨by simp,by rw[if_neg (by decide)];exact hk⟩
          ·apply eI;repeat constructor
         ·skip
          have hs3:=is_f (k:=1) h10
          refine r_sr (p_mv rfl rfl ?_)
          refine l_op (x_q (rq_callf cf_35 (.n rfl) rfl rfl fR (.c rfl fR (.c rfl fR .n)) (fun hg=>rdk_is _ _ b4 b5 wv nv w0 ws ns cell0 cell0 (Rd.ent hrw (eJ (by repeat constructor))) (Rd.ent hrn (eJ (by repeat constructor))) [108,111,115,101] 1)) rfl rfl ?_)
          refine p_as rfl rfl (o_keep (kp [0,5,9,10,107] rfl) (r_cond _ rfl (fun h11=>?_) (fun h11=>?_)))
          ·skip
           have hc:=is_t (k:=1) h11
           obtain⟨x,hx⟩:=getlt (l:=ns) (i:=0) (by omega)
           have hx0:ns.getD 0 0=x:=by rw[List.getD_eq_getElem?_getD,hx];rfl
           have hk:stepK w0 ns=some ⟨4,x,[]⟩:=by unfold stepK;rw[if_neg hs0,if_neg hs1,if_neg hs2,if_neg hs3,if_pos hc,hx0]
           refine r_plan (_) ([blk b10 [.int .i64 0,.int .i64 0,.slice Option.none 0 0] 91]) mo (kp [0,5,9,10] rfl) (SelB.ent) ?_
           refine yr 0 [.k 5] rfl rfl (by kernel_rfl) (fun He=>u_ldc tc_65 rfl rfl rfl (by rfl)) ?_
           refine yp 1 [.o 0] rfl rfl (by kernel_rfl) (pv_idx Tryz.underlying65 (.ofC tc_3) hrn (fun hg=>⟨rfl,(mapget hx)⟩) (.n rfl) rfl rfl rfl fS) ?_
           refine yr 2 [.o 1] rfl rfl (by kernel_rfl) (fun He=>rv_ldat (j:=0) tc_3 (Rd.ent hrn (eJ (by repeat constructor))) (fun hg=>(mapget hx)) (.n rfl) rfl rfl fR rfl fR) ?_
           refine yp 3 [.k 10] rfl rfl (by kernel_rfl) (u_fa fa_91_0 rfl rfl rfl) ?_
           refine qm_store (.ofC tc_3) (i:=4) [.o 3] (by kernel_rfl) (by kernel_rfl) rfl rfl rfl (by kernel_rfl) (by kernel_rfl) ⟨_,.n rfl,rfl⟩ rfl rfl rfl rfl rfl rfl (by repeat constructor) ?_
           refine yp 5 [.k 10] rfl rfl (by kernel_rfl) (u_fa fa_91_1 rfl rfl rfl) ?_
           refine qb_store (.ofC tc_3) (i:=6) [.o 5,.o 2] (by kernel_rfl) (by kernel_rfl) rfl rfl rfl (by kernel_rfl) (by kernel_rfl) (by kernel_rfl) ⟨_,.n rfl,rfl⟩ rfl rfl rfl rfl rfl rfl (by repeat constructor) ?_
           refine qm_n (by kernel_rfl) (by kernel_rfl) (by kernel_rfl) (by kernel_rfl) (kp [0,5,9,10] rfl) ?_
           refine r_end ?_
           refine r_join_4 (4) (x) (.slice Option.none 0 0) ([]) ?_ (Keep.app (.n) (kp [0,5,9,10] rfl)) ?_
           ·exact⟨by simp,by rw[if_neg (by decide)];exact hk⟩
           ·apply eI;repeat constructor
          ·skip
           have hs4:=is_f (k:=1) h11
           refine r_sr (p_mv rfl rfl ?_)
           refine l_op (x_q (rq_callf cf_35 (.n rfl) rfl rfl fR (.c rfl fR (.c rfl fR .n)) (fun hg=>rdk_is _ _ b4 b5 wv nv w0 ws ns cell0 cell0 (Rd.ent hrw (eJ (by repeat constructor))) (Rd.ent hrn (eJ (by repeat constructor))) [100,111,117,98,108,101] 1)) rfl rfl ?_)
           refine p_as rfl rfl (o_keep (kp [0,5,9,10,115] rfl) (r_cond _ rfl (fun h12=>?_) (fun h12=>?_)))
           ·skip
            have hc:=is_t (k:=1) h12
            obtain⟨x,hx⟩:=getlt (l:=ns) (i:=0) (by omega)
            have hx0:ns.getD 0 0=x:=by rw[List.getD_eq_getElem?_getD,hx];rfl
            have hk:stepK w0 ns=some ⟨5,x,[]⟩:=by unfold stepK;rw[if_neg hs0,if_neg hs1,if_neg hs2,if_neg hs3,if_neg hs4,if_pos hc,hx0]
            refine r_plan (_) ([blk b10 [.int .i64 0,.int .i64 0,.slice Option.none 0 0] 91]) mo (kp [0,5,9,10] rfl) (SelB.ent) ?_
            refine yr 0 [.k 5] rfl rfl (by kernel_rfl) (fun He=>u_ldc tc_65 rfl rfl rfl (by rfl)) ?_
            refine yp 1 [.o 0] rfl rfl (by kernel_rfl) (pv_idx Tryz.underlying65 (.ofC tc_3) hrn (fun hg=>⟨rfl,(mapget hx)⟩) (.n rfl) rfl rfl rfl fS) ?_
            refine yr 2 [.o 1] rfl rfl (by kernel_rfl) (fun He=>rv_ldat (j:=0) tc_3 (Rd.ent hrn (eJ (by repeat constructor))) (fun hg=>(mapget hx)) (.n rfl) rfl rfl fR rfl fR) ?_
            refine yp 3 [.k 10] rfl rfl (by kernel_rfl) (u_fa fa_91_0 rfl rfl rfl) ?_
            refine qm_store (.ofC tc_3) (i:=4) [.o 3] (by kernel_rfl) (by kernel_rfl) rfl rfl rfl (by kernel_rfl) (by kernel_rfl) ⟨_,.n rfl,rfl⟩ rfl rfl rfl rfl rfl rfl (by repeat constructor) ?_
            refine yp 5 [.k 10] rfl rfl (by kernel_rfl) (u_fa fa_91_1 rfl rfl rfl) ?_
            refine qb_store (.ofC tc_3) (i:=6) [.o 5,.o 2] (by kernel_rfl) (by kernel_rfl) rfl rfl rfl (by kernel_rfl) (by kernel_rfl) (by kernel_rfl) ⟨_,.n rfl,rfl⟩ rfl rfl rfl rfl rfl rfl (by repeat constructor) ?_
            refine qm_n (by kernel_rfl) (by kernel_rfl) (by kernel_rfl) (by kernel_rfl) (kp [0,5,9,10] rfl) ?_
            refine r_end ?_
            refine r_join_4 (5) (x) (.slice Option.none 0 0) ([]) ?_ (Keep.app (.n) (kp [0,5,9,10] rfl)) ?_
            ·exact⟨by simp,by rw[if_neg (by decide)];exact hk⟩
            ·apply eI;repeat constructor
           ·skip
            have hs5:=is_f (k:=1) h12
            refine r_sr (p_mv rfl rfl ?_)
            refine l_op (x_q (rq_callf cf_35 (.n rfl) rfl rfl fR (.c rfl fR (.c rfl fR .n)) (fun hg=>rdk_is _ _ b4 b5 wv nv w0 ws ns cell0 cell0 (Rd.ent hrw (eJ (by repeat constructor))) (Rd.ent hrn (eJ (by repeat constructor))) [113,117,105,116] 1)) rfl rfl ?_)
            refine p_as rfl rfl (o_keep (kp [0,5,9,10,123] rfl) (r_cond _ rfl (fun h13=>?_) (fun h13=>?_)))
            ·skip
             have hc:=is_t (k:=1) h13
             obtain⟨x,hx⟩:=getlt (l:=ns) (i:=0) (by omega)
             have hx0:ns.getD 0 0=x:=by rw[List.getD_eq_getElem?_getD,hx];rfl
             have hk:stepK w0 ns=some ⟨6,x,[]⟩:=by unfold stepK;rw[if_neg hs0,if_neg hs1,if_neg hs2,if_neg hs3,if_neg hs4,if_neg hs5,if_pos hc,hx0]
             refine r_plan (_) ([blk b10 [.int .i64 0,.int .i64 0,.slice Option.none 0 0] 91]) mo (kp [0,5,9,10] rfl) (SelB.ent) ?_
             refine yr 0 [.k 5] rfl rfl (by kernel_rfl) (fun He=>u_ldc tc_65 rfl rfl rfl (by rfl)) ?_
             refine yp 1 [.o 0] rfl rfl (by kernel_rfl) (pv_idx Tryz.underlying65 (.ofC tc_3) hrn (fun hg=>⟨rfl,(mapget hx)⟩) (.n rfl) rfl rfl rfl fS) ?_
             refine yr 2 [.o 1] rfl rfl (by kernel_rfl) (fun He=>rv_ldat (j:=0) tc_3 (Rd.ent hrn (eJ (by repeat constructor))) (fun hg=>(mapget hx)) (.n rfl) rfl rfl fR rfl fR) ?_
             refine yp 3 [.k 10] rfl rfl (by kernel_rfl) (u_fa fa_91_0 rfl rfl rfl) ?_
             refine qm_store (.ofC tc_3) (i:=4) [.o 3] (by kernel_rfl) (by kernel_rfl) rfl rfl rfl (by kernel_rfl) (by kernel_rfl) ⟨_,.n rfl,rfl⟩ rfl rfl rfl rfl rfl rfl (by repeat constructor) ?_
             refine yp 5 [.k 10] rfl rfl (by kernel_rfl) (u_fa fa_91_1 rfl rfl rfl) ?_
             refine qb_store (.ofC tc_3) (i:=6) [.o 5,.o 2] (by kernel_rfl) (by kernel_rfl) rfl rfl rfl (by kernel_rfl) (by kernel_rfl) (by kernel_rfl) ⟨_,.n rfl,rfl⟩ rfl rfl rfl rfl rfl rfl (by repeat constructor) ?_
             refine qm_n (by kernel_rfl) (by kernel_rfl) (by kernel_rfl) (by kernel_rfl) (kp [0,5,9,10] rfl) ?_
             refine r_end ?_
             refine r_join_4 (6) (x) (.slice Option.none 0 0) ([]) ?_ (Keep.app (.n) (kp [0,5,9,10] rfl)) ?_
             ·exact⟨by simp,by rw[if_neg (by decide)];exact hk⟩
             ·apply eI;repeat constructor
            ·skip
             have hs6:=is_f (k:=1) h13
             refine r_sr (p_mv rfl rfl ?_)
             refine l_op (x_q (rq_callf cf_35 (.n rfl) rfl rfl fR (.c rfl fR (.c rfl fR .n)) (fun hg=>rdk_is _ _ b4 b5 wv nv w0 ws ns cell0 cell0 (Rd.ent hrw (eJ (by repeat constructor))) (Rd.ent hrn (eJ (by repeat constructor))) [115,104,111,112] 1)) rfl rfl ?_)
             refine p_as rfl rfl (o_keep (kp [0,5,9,10,131] rfl) (r_cond _ rfl (fun h14=>?_) (fun h14=>?_)))
             ·skip
              have hc:=is_t (k:=1) h14
              obtain⟨x,hx⟩:=getlt (l:=ns) (i:=0) (by omega)
              have hx0:ns.getD 0 0=x:=by rw[List.getD_eq_getElem?_getD,hx];rfl
              have hk:stepK w0 ns=some ⟨7,x,[]⟩:=by unfold stepK;rw[if_neg hs0,if_neg hs1,if_neg hs2,if_neg hs3,if_neg hs4,if_neg hs5,if_neg hs6,if_pos hc,hx0]
              refine r_plan (_) ([blk b10 [.int .i64 0,.int .i64 0,.slice Option.none 0 0] 91]) mo (kp [0,5,9,10] rfl) (SelB.ent) ?_
              refine yr 0 [.k 5] rfl rfl (by kernel_rfl) (fun He=>u_ldc tc_65 rfl rfl rfl (by rfl)) ?_
              refine yp 1 [.o 0] rfl rfl (by kernel_rfl) (pv_idx Tryz.underlying65 (.ofC tc_3) hrn (fun hg=>⟨rfl,(mapget hx)⟩) (.n rfl) rfl rfl rfl fS) ?_
              refine yr 2 [.o 1] rfl rfl (by kernel_rfl) (fun He=>rv_ldat (j:=0) tc_3 (Rd.ent hrn (eJ (by repeat constructor))) (fun hg=>(mapget hx)) (.n rfl) rfl rfl fR rfl fR) ?_
              refine yp 3 [.k 10] rfl rfl (by kernel_rfl) (u_fa fa_91_0 rfl rfl rfl) ?_
              refine qm_store (.ofC tc_3) (i:=4) [.o 3] (by kernel_rfl) (by kernel_rfl) rfl rfl rfl (by kernel_rfl) (by kernel_rfl) ⟨_,.n rfl,rfl⟩ rfl rfl rfl rfl rfl rfl (by repeat constructor) ?_
              refine yp 5 [.k 10] rfl rfl (by kernel_rfl) (u_fa fa_91_1 rfl rfl rfl) ?_
              refine qb_store (.ofC tc_3) (i:=6) [.o 5,.o 2] (by kernel_rfl) (by kernel_rfl) rfl rfl rfl (by kernel_rfl) (by kernel_rfl) (by kernel_rfl) ⟨_,.n rfl,rfl⟩ rfl rfl rfl rfl rfl rfl (by repeat constructor) ?_
              refine qm_n (by kernel_rfl) (by kernel_rfl) (by kernel_rfl) (by kernel_rfl) (kp [0,5,9,10] rfl) ?_
              refine r_end ?_
              refine r_join_4 (7) (x) (.slice Option.none 0 0) ([]) ?_ (Keep.app (.n) (kp [0,5,9,10] rfl)) ?_
              ·exact⟨by simp,by rw[if_neg (by decide)];exact hk⟩
              ·apply eI;repeat constructor
             ·skip
              have hs7:=is_f (k:=1) h14
              have hk:stepK w0 ns=none:=by unfold stepK;rw[if_neg hs0,if_neg hs1,if_neg hs2,if_neg hs3,if_neg hs4,if_neg hs5,if_neg hs6,if_neg hs7]
              refine r_skip (r_end ?_)
              refine r_join_4 (0) (0) (.slice Option.none 0 0) ([]) ?_ (Keep.app (.n) (kp [0,5,9,10] rfl)) ?_
              ·exact⟨by simp,by rw[if_pos rfl];exact hk⟩
              ·apply eI;repeat constructor
     obtain⟨hxl,hxk⟩:=hI
     refine r_seq (r_sr (p_fa fa_91_0 rfl rfl (p_ldc tc_3 rfl (by rfl) rfl ?_)))
     refine p_neq rfl rfl rfl (o_keep (kp [0,5,9,10,141] rfl) (r_cond _ rfl (fun h15=>?_) (fun h15=>?_)))
     ·skip
      have hk0:¬ xk=0:=by simpa using h15
      rw[if_neg hk0] at hxk
      have hln:lineT t s=((stepT t ⟨xk,xn,xw⟩).1,codeS (stepT t ⟨xk,xn,xw⟩).2):=by rw[hcm];unfold cmdT;rw[hxk];rfl
      have hst6:=step_i64 t ⟨xk,xn,xw⟩
      have hitl9:=Lib.itoa_length_le _ hst6.1 hst6.2
      refine r_seq (r_seq ?_)
      refine r_plan _ [] mo (kp [0,5,9,10] rfl) Ent.rfl ?_
      refine yp 0 [.k 0] rfl rfl (by kernel_rfl) (u_mv rfl rfl rfl) (yp 1 [.o 0] rfl rfl (by kernel_rfl) (u_nil rfl rfl rfl) (yp 2 [.o 1] rfl rfl (by kernel_rfl) (u_fa fa_50_1 rfl rfl rfl) (yr 3 [.o 2] rfl rfl (by kernel_rfl) (fun He=>u_ldc tc_47 rfl rfl rfl (by rfl)) ?_)))
      refine yr 4 [.k 10] rfl rfl (by kernel_rfl) (fun He=>q_lda ta_91 (.n rfl) rfl rfl fR (by exact (.s (.s (.s .z))))) ?_
      refine qb_callc (i:=5) [.o 3,.o 4] (by kernel_rfl) (by kernel_rfl) rfl rfl rfl rfl (by kernel_rfl) (by kernel_rfl) (by kernel_rfl) ⟨_,.n rfl,rfl⟩ cf_36 rfl (.c rfl (.c rfl .n)) (market_StepW _ mb t hTI xk xn xv xw hxl) ?_
      refine yp 6 [.o 5] rfl rfl (by kernel_rfl) (u_as rfl rfl rfl) ?_
      refine qm_n (by kernel_rfl) (by kernel_rfl) (by kernel_rfl) (by kernel_rfl) (kp [0,5,9,12] rfl) ?_
      refine r_sr (p_mv rfl rfl (p_neq rfl rfl rfl (o_keep (kp [0,5,9,12,149] rfl) (r_cond _ rfl (fun h16=>?_) (fun h16=>?_)))))
      ·skip
       have hcs:codeS (stepT t ⟨xk,xn,xw⟩).2=([110,111,32]++Lib.itoa (stepT t ⟨xk,xn,xw⟩).2)++[10]:=by unfold codeS;rw[if_pos (by simpa using h16)]
       refine r_region (p_mv rfl rfl (p_mv rfl rfl ?_))
       refine p_callv cf_33 (.c rfl .n) rfl (ref_num _ _ L (stepT t ⟨xk,xn,xw⟩).2 hst6) ?_
       refine l_op (x_p (pv_sadd (fun _=>by (try simp only[List.length_append,List.length_cons,List.length_nil]);omega) (.n rfl) rfl rfl rfl fS) rfl rfl ?_)
       refine p_callc cf_34 (.c rfl (.c rfl .n)) rfl (rdk_say _ b mb u _ (by simp only[List.length_append,List.length_cons,List.length_nil];omega)) ?_
       refine o_keep (kp [0,5,9] rfl) ?_
       refine r_retv hF rfl .n ?_ ?_
       ·rw[hln,hcs];apply eI;repeat constructor
       ·rfl
      ·skip
       have hcs:codeS (stepT t ⟨xk,xn,xw⟩).2=[111,107]++[10]:=by unfold codeS;rw[if_neg (by simpa using h16)];rfl
       refine r_region (p_mv rfl rfl ?_)
       refine p_callc cf_34 (.c rfl (.c rfl .n)) rfl (rdk_say _ b mb u [111,107] (by simp;omega)) ?_
       refine o_keep (kp [0,5,9] rfl) ?_
       refine r_retv hF rfl .n ?_ ?_
       ·rw[hln,hcs];apply eI;repeat constructor
       ·rfl
     ·skip
      have hk0:xk=0:=by simpa using h15
      rw[if_pos hk0] at hxk
      refine r_skip (r_block (r_sr (p_mv rfl rfl ?_)))
      refine l_op (x_q (rq_callf cf_35 (.n rfl) rfl rfl fR (.c rfl fR (.c rfl fR .n)) (fun hg=>rdk_is _ _ b4 b5 wv nv w0 ws ns cell0 cell0 (Rd.ent hrw (eJ (by repeat constructor))) (Rd.ent hrn (eJ (by repeat constructor))) [99,97,108,109] 0)) rfl rfl ?_)
      refine p_as rfl rfl (o_keep (kp [0,5,9,159] rfl) (r_cond _ rfl (fun h17=>?_) (fun h17=>?_)))
      ·skip
       have hc:=is_t (k:=0) h17
       have hk:askT t w0 ns=((calmT t).1,[99,97,108,109,32]++Lib.itoa (calmT t).2++[10]):=by unfold askT;rw[if_pos hc]
       have hln:lineT t s=((calmT t).1,[99,97,108,109,32]++Lib.itoa (calmT t).2++[10]):=by rw[hcm];unfold cmdT;rw[hxk];exact hk
       refine r_region (p_mv rfl rfl (p_mv rfl rfl (p_nil rfl rfl (p_fa fa_50_1 rfl rfl (p_ldc tc_47 rfl (by rfl) rfl ?_)))))
       refine p_callc cf_37 (.c rfl .n) rfl (market_Calm _ mb t hTI) ?_
       refine p_callv cf_33 (.c rfl .n) rfl (ref_num _ _ L (calmT t).2 hc6) ?_
       refine l_op (x_p (pv_sadd (fun _=>by (try simp only[List.length_append,List.length_cons,List.length_nil]);omega) (.n rfl) rfl rfl rfl fS) rfl rfl ?_)
       refine p_callc cf_34 (.c rfl (.c rfl .n)) rfl (rdk_say _ b mb u _ (by simp only[List.length_append,List.length_cons,List.length_nil];omega)) ?_
       refine o_keep (.n) (r_end ?_)
       refine r_fallc hF rfl ?_
       ·rw[hln];apply eI;repeat constructor
      ·skip
       have hn0:=is_f (k:=0) h17
       refine r_sr (p_mv rfl rfl ?_)
       refine l_op (x_q (rq_callf cf_35 (.n rfl) rfl rfl fR (.c rfl fR (.c rfl fR .n)) (fun hg=>rdk_is _ _ b4 b5 wv nv w0 ws ns cell0 cell0 (Rd.ent hrw (eJ (by repeat constructor))) (Rd.ent hrn (eJ (by repeat constructor))) [119,111,114,108,100] 0)) rfl rfl ?_)
       refine p_as rfl rfl (o_keep (kp [0,5,9,171] rfl) (r_cond _ rfl (fun h18=>?_) (fun h18=>?_)))
       ·skip
        have hc:=is_t (k:=0) h18
        have hk:askT t w0 ns=(t,listS [119,111,114,108,100] (worldT t)):=by unfold askT;rw[if_neg hn0,if_pos hc]
        have hln:lineT t s=(t,listS [119,111,114,108,100] (worldT t)):=by rw[hcm];unfold cmdT;rw[hxk];exact hk
        refine r_sr (p_mv rfl rfl (p_nil rfl rfl (p_fa fa_50_1 rfl rfl (p_ldc tc_47 rfl (by rfl) rfl ?_))))
        refine p_callv cf_38 (.c rfl .n) rfl ((market_World _ mb t hTI).q) ?_
        refine p_alloc zr_38 rfl fun b13=>?_
        refine p_store (.ofA ta_38) rfl rfl rfl (by first|rfl|exact (by first|rfl|assumption|(simp only[List.drop_zero,List.length_map];assumption)|(simp[*];done))) (by first|rfl|exact (by first|rfl|simp[vI,Value.oneCell'])) (Ins.whole (by simp;omega)) ?_
        refine o_keep (kp [0,13] rfl) (r_region (p_mv rfl rfl (l_op (x_p (pv_slarr Tryz.underlying38 (.ofC tc_3) (by decide) (.n rfl) rfl rfl fR) rfl rfl ?_))))
        refine p_callc cf_39 (.c rfl (.c rfl (.c rfl .n))) rfl (rdk_list _ L b mb u (blk b13 ((worldT t).map vI) 38) [119,111,114,108,100] _ (worldT t) (rd_world hw6) hD.world (by omega) (by simp;omega)) ?_
        refine o_keep (.n) (r_end ?_)
        refine r_fallc hF rfl ?_
        ·rw[hln];apply eI;repeat constructor
       ·skip
        have hn1:=is_f (k:=0) h18
        refine r_sr (p_mv rfl rfl ?_)
        refine l_op (x_q (rq_callf cf_35 (.n rfl) rfl rfl fR (.c rfl fR (.c rfl fR .n)) (fun hg=>rdk_is _ _ b4 b5 wv nv w0 ws ns cell0 cell0 (Rd.ent hrw (eJ (by repeat constructor))) (Rd.ent hrn (eJ (by repeat constructor))) [115,101,114,105,97,108] 0)) rfl rfl ?_)
        refine p_as rfl rfl (o_keep (kp [0,5,9,182] rfl) (r_cond _ rfl (fun h19=>?_) (fun h19=>?_)))
        ·skip
         have hc:=is_t (k:=0) h19
         have hk:askT t w0 ns=(t,listS [119,111,114,108,100] (serialT t).1):=by unfold askT;rw[if_neg hn0,if_neg hn1,if_pos hc,if_neg (by simp[hs0])]
         have hln:lineT t s=(t,listS [119,111,114,108,100] (serialT t).1):=by rw[hcm];unfold cmdT;rw[hxk];exact hk
         refine r_sr (p_mv rfl rfl (p_nil rfl rfl (p_fa fa_50_1 rfl rfl (p_ldc tc_47 rfl (by rfl) rfl ?_))))
         refine p_callv cf_40 (.c rfl .n) rfl ((market_Serial _ mb t hTI).q) ?_
         refine p_mv rfl rfl (p_ext rfl rfl rfl (p_ext rfl rfl rfl (p_alloc zr_38 rfl fun b14=>?_)))
         refine p_store (.ofA ta_38) rfl rfl rfl (by first|rfl|exact (by first|rfl|assumption|(simp only[List.drop_zero,List.length_map];assumption)|(simp[*];done))) (by first|rfl|exact (by first|rfl|simp[vI,Value.oneCell'])) (Ins.whole (by simp;omega)) ?_
         refine p_as rfl rfl (o_keep (kp [0,14,15] rfl) (r_sr (p_mv rfl rfl (p_neq rfl rfl rfl (o_keep (kp [0,14,15,194] rfl) (r_cond _ rfl (fun h20=>?_) (fun h20=>?_)))))))
         ·simp[hs0] at h20
         ·skip
          refine r_region (p_mv rfl rfl (l_op (x_p (pv_slarr Tryz.underlying38 (.ofC tc_3) (by decide) (.n rfl) rfl rfl fR) rfl rfl ?_)))
          refine p_callc cf_39 (.c rfl (.c rfl (.c rfl .n))) rfl (rdk_list _ L b mb u (blk b14 ((serialT t).1.map vI) 38) [119,111,114,108,100] _ (serialT t).1 (rd_world hs6) hs7 (by omega) (by simp;omega)) ?_
          refine o_keep (.n) (r_end ?_)
          refine r_fallc hF rfl ?_
          ·rw[hln];apply eI;repeat constructor
        ·skip
         have hn2:=is_f (k:=0) h19
         refine r_sr (p_mv rfl rfl ?_)
         refine l_op (x_q (rq_callf cf_35 (.n rfl) rfl rfl fR (.c rfl fR (.c rfl fR .n)) (fun hg=>rdk_is _ _ b4 b5 wv nv w0 ws ns cell0 cell0 (Rd.ent hrw (eJ (by repeat constructor))) (Rd.ent hrn (eJ (by repeat constructor))) [115,116,97,116,101] 1)) rfl rfl ?_)
         refine p_as rfl rfl (o_keep (kp [0,5,9,203] rfl) (r_cond _ rfl (fun h21=>?_) (fun h21=>?_)))
         ·skip
          have hc:=is_t (k:=1) h21
          obtain⟨x,hx⟩:=getlt (l:=ns) (i:=0) (by omega)
          have hx0:ns.getD 0 0=x:=by rw[List.getD_eq_getElem?_getD,hx];rfl
          have hsx:=hsi x
          have hk:askT t w0 ns=(t,[115,116,97,116,101,32]++Lib.itoa (stateB t.b x)++[10]):=by unfold askT;rw[if_neg hn0,if_neg hn1,if_neg hn2,if_pos hc,hx0]
          have hln:lineT t s=(t,[115,116,97,116,101,32]++Lib.itoa (stateB t.b x)++[10]):=by rw[hcm];unfold cmdT;rw[hxk];exact hk
          refine r_sel (marketP mb t) ?_
          refine r_marketB fun p0 p1 p2 bv=>?_
          refine r_plan _ [] mo (kp [0,5] rfl) Ent.rfl ?_
          refine yp 0 [.k 0] rfl rfl (by kernel_rfl) (u_mv rfl rfl rfl) (yp 1 [.k 0] rfl rfl (by kernel_rfl) (u_mv rfl rfl rfl) (yp 2 [.o 1] rfl rfl (by kernel_rfl) (u_nil rfl rfl rfl) (yp 3 [.o 2] rfl rfl (by kernel_rfl) (u_fa fa_50_1 rfl rfl rfl) (yr 4 [.o 3] rfl rfl (by kernel_rfl) (fun He=>u_ldc tc_47 rfl rfl rfl (by rfl)) ?_))))
          refine yp 5 [.o 4] rfl rfl (by kernel_rfl) (u_nil rfl rfl rfl) (yp 6 [.o 5] rfl rfl (by kernel_rfl) (u_fa fa_73_0 rfl rfl rfl) (yr 7 [.k 5] rfl rfl (by kernel_rfl) (fun He=>u_ldc tc_65 rfl rfl rfl (by rfl)) ?_))
          refine yp 8 [.o 7] rfl rfl (by kernel_rfl) (pv_idx Tryz.underlying65 (.ofC tc_3) hrn (fun hg=>⟨rfl,(mapget hx)⟩) (.n rfl) rfl rfl rfl fS) ?_
          refine yr 9 [.o 8] rfl rfl (by kernel_rfl) (fun He=>rv_ldat (j:=0) tc_3 (Rd.ent hrn (eJ (by repeat constructor))) (fun hg=>(mapget hx)) (.n rfl) rfl rfl fR rfl fR) ?_
          refine yq 10 [.o 6,.o 9] rfl rfl (by kernel_rfl) (fun He=>rq_call cf_41 (.n rfl) rfl (.c rfl fR (.c rfl fR .n)) (fun hg=>(book_State _ 73 (mkR t.ws p0 p1 p2 bv) mb t.b hTI.b x).q)) ?_
          refine yq 11 [.o 10] rfl rfl (by kernel_rfl) (fun He=>rq_call cf_33 (.n rfl) rfl (.c rfl fR .n) (fun hg=>ref_num _ _ L (stateB t.b x) (hTI.b.state x))) ?_
          refine yp 12 [.o 11] rfl rfl (by kernel_rfl) (pv_sadd (fun _=>by (try simp only[List.length_append,List.length_cons,List.length_nil]);omega) (.n rfl) rfl rfl rfl fS) ?_
          refine qb_callc (i:=13) [.o 0,.o 12] (by kernel_rfl) (by kernel_rfl) rfl rfl rfl rfl (by kernel_rfl) (by kernel_rfl) (by kernel_rfl) ⟨_,.n rfl,rfl⟩ cf_34 rfl (.c rfl (.c rfl .n)) (rdk_say _ b mb u _ (by simp only[List.length_append,List.length_cons,List.length_nil];omega)) ?_
          refine qm_n (by kernel_rfl) (by kernel_rfl) (by kernel_rfl) (by kernel_rfl) (.n) ?_
          refine r_end ?_
          refine r_fallc hF rfl ?_
          ·rw[hln];refine Ent.catI ?_;refine Ent.c (SelB.ent) ?_;refine Ent.c (marketP_bclose (t:=t) p0 p1 p2 bv rfl) ?_;apply eI;repeat constructor
         ·skip
          have hn3:=is_f (k:=1) h21
          refine r_sr (p_mv rfl rfl ?_)
          refine l_op (x_q (rq_callf cf_35 (.n rfl) rfl rfl fR (.c rfl fR (.c rfl fR .n)) (fun hg=>rdk_is _ _ b4 b5 wv nv w0 ws ns cell0 cell0 (Rd.ent hrw (eJ (by repeat constructor))) (Rd.ent hrn (eJ (by repeat constructor))) [100,111,110,101] 0)) rfl rfl ?_)
          refine p_as rfl rfl (o_keep (kp [0,5,9,220] rfl) (r_cond _ rfl (fun h22=>?_) (fun h22=>?_)))
          ·skip
           have hc:=is_t (k:=0) h22
           have hk:askT t w0 ns=(t,listS [100,111,110,101] t.b.order):=by unfold askT;rw[if_neg hn0,if_neg hn1,if_neg hn2,if_neg hn3,if_pos hc]
           have hln:lineT t s=(t,listS [100,111,110,101] t.b.order):=by rw[hcm];unfold cmdT;rw[hxk];exact hk
           refine r_sel (marketP mb t) ?_
           refine r_market fun lv ov ts p0 p1 p2 bv hts=>?_
           refine r_cat ?_
           refine r_rd ov fun hro=>?_
           refine r_region (p_mv rfl rfl (p_mv rfl rfl (p_nil rfl rfl (p_fa fa_50_1 rfl rfl (p_ldc tc_47 rfl (by rfl) rfl ?_)))))
           refine p_nil rfl rfl (p_fa fa_73_0 rfl rfl (p_fa fa_67_1 rfl rfl (p_ldc tc_65 rfl (by rfl) rfl ?_)))
           refine p_callc cf_39 (.c rfl (.c rfl (.c rfl .n))) rfl (rdk_list _ L b mb u _ [100,111,110,101] ov t.b.order hro hTI.b.order (by omega) (by simp;omega)) ?_
           refine o_keep (.n) (r_end ?_)
           refine r_fallc hF rfl ?_
           ·rw[hln];refine Ent.catI ?_;refine Ent.c (SelB.ent) ?_;refine Ent.c (marketP_close (t:=t) lv ov ts p0 p1 p2 bv hts rfl rfl rfl rfl) ?_;apply eI;repeat constructor
          ·skip
           have hn4:=is_f (k:=0) h22
           refine r_sr (p_mv rfl rfl ?_)
           refine l_op (x_q (rq_callf cf_35 (.n rfl) rfl rfl fR (.c rfl fR (.c rfl fR .n)) (fun hg=>rdk_is _ _ b4 b5 wv nv w0 ws ns cell0 cell0 (Rd.ent hrw (eJ (by repeat constructor))) (Rd.ent hrn (eJ (by repeat constructor))) [109,97,105,108] 0)) rfl rfl ?_)
           refine p_as rfl rfl (o_keep (kp [0,5,9,233] rfl) (r_cond _ rfl (fun h23=>?_) (fun h23=>?_)))
           ·skip
            have hc:=is_t (k:=0) h23
            have hk:askT t w0 ns=(t,mailsS t.post):=by unfold askT;rw[if_neg hn0,if_neg hn1,if_neg hn2,if_neg hn3,if_neg hn4,if_pos hc]
            have hln:lineT t s=(t,mailsS t.post):=by rw[hcm];unfold cmdT;rw[hxk];exact hk
            refine r_sel (marketP mb t) ?_
            refine r_market fun lv ov ts p0 p1 p2 bv hts=>?_
            refine r_cat ?_
            refine r_rd bv fun hrb=>?_
            refine r_region (p_mv rfl rfl (p_mv rfl rfl (p_nil rfl rfl (p_fa fa_50_1 rfl rfl (p_ldc tc_47 rfl (by rfl) rfl ?_)))))
            refine p_nil rfl rfl (p_fa fa_73_3 rfl rfl (p_ldc tc_71 rfl (by rfl) rfl ?_))
            refine p_callc cf_42 (.c rfl (.c rfl .n)) rfl (rdk_mails _ L b mb u _ bv t.post hrb hD.mr (by omega) (by omega)) ?_
            refine o_keep (.n) (r_end ?_)
            refine r_fallc hF rfl ?_
            ·rw[hln];refine Ent.catI ?_;refine Ent.c (SelB.ent) ?_;refine Ent.c (marketP_close (t:=t) lv ov ts p0 p1 p2 bv hts rfl rfl rfl rfl) ?_;apply eI;repeat constructor
           ·skip
            have hn5:=is_f (k:=0) h23
            refine r_sr (p_mv rfl rfl ?_)
            refine l_op (x_q (rq_callf cf_35 (.n rfl) rfl rfl fR (.c rfl fR (.c rfl fR .n)) (fun hg=>rdk_is _ _ b4 b5 wv nv w0 ws ns cell0 cell0 (Rd.ent hrw (eJ (by repeat constructor))) (Rd.ent hrn (eJ (by repeat constructor))) [100,117,101] 0)) rfl rfl ?_)
            refine p_as rfl rfl (o_keep (kp [0,5,9,245] rfl) (r_cond _ rfl (fun h24=>?_) (fun h24=>?_)))
            ·skip
             have hc:=is_t (k:=0) h24
             have hk:askT t w0 ns=(t,mailsS (dueB t.b)):=by unfold askT;rw[if_neg hn0,if_neg hn1,if_neg hn2,if_neg hn3,if_neg hn4,if_neg hn5,if_pos hc]
             have hln:lineT t s=(t,mailsS (dueB t.b)):=by rw[hcm];unfold cmdT;rw[hxk];exact hk
             refine r_sel (marketP mb t) ?_
             refine r_marketB fun p0 p1 p2 bv=>?_
             refine r_region (p_mv rfl rfl (p_mv rfl rfl (p_nil rfl rfl (p_fa fa_50_1 rfl rfl (p_ldc tc_47 rfl (by rfl) rfl ?_)))))
             refine p_nil rfl rfl (p_fa fa_73_0 rfl rfl ?_)
             refine p_calle cf_43 (.c rfl .n) rfl (book_Due _ 73 (mkR t.ws p0 p1 p2 bv) mb t.b hTI.b) fun d1=>?_
             refine o_cat ?_
             refine o_rd d1 fun hrd1=>?_
             refine p_callc cf_42 (.c rfl (.c rfl .n)) rfl (rdk_mails _ L b mb u _ d1 (dueB t.b) hrd1 (fun m hm=>hD.due hm) (by omega) (by omega)) ?_
             refine o_keep (.n) (r_end ?_)
             refine r_fallc hF rfl ?_
             ·rw[hln];refine Ent.catI ?_;refine Ent.c (SelB.ent) ?_;refine Ent.c (marketP_bclose (t:=t) p0 p1 p2 bv rfl) ?_;apply eI;repeat constructor
            ·skip
             have hn6:=is_f (k:=0) h24
             refine r_sr (p_mv rfl rfl ?_)
             refine l_op (x_q (rq_callf cf_35 (.n rfl) rfl rfl fR (.c rfl fR (.c rfl fR .n)) (fun hg=>rdk_is _ _ b4 b5 wv nv w0 ws ns cell0 cell0 (Rd.ent hrw (eJ (by repeat constructor))) (Rd.ent hrn (eJ (by repeat constructor))) [104,111,108,100,115] 1)) rfl rfl ?_)
             refine p_as rfl rfl (o_keep (kp [0,5,257] rfl) (r_cond _ rfl (fun h25=>?_) (fun h25=>?_)))
             ·skip
              have hc:=is_t (k:=1) h25
              obtain⟨x,hx⟩:=getlt (l:=ns) (i:=0) (by omega)
              have hx0:ns.getD 0 0=x:=by rw[List.getD_eq_getElem?_getD,hx];rfl
              have hsx:=hsi x
              have hk:askT t w0 ns=(t,shopS t x):=by unfold askT;rw[if_neg hn0,if_neg hn1,if_neg hn2,if_neg hn3,if_neg hn4,if_neg hn5,if_neg hn6,if_pos hc,hx0]
              have hln:lineT t s=(t,shopS t x):=by rw[hcm];unfold cmdT;rw[hxk];exact hk
              refine r_seq (r_sr (p_ldc tc_65 rfl (by rfl) rfl ?_))
              refine p_idx Tryz.underlying65 (.ofC tc_3) hrn rfl (mapget hx) rfl rfl rfl (p_ldat 0 tc_3 (Rd.ent hrn (eJ (by repeat constructor))) (mapget hx) rfl rfl rfl rfl ?_)
              refine p_lss rfl rfl rfl (p_mv rfl rfl (l_op (x_r (q_ldc tc_65 (.s rfl rfl rfl) rfl rfl gA (by rfl)) rfl rfl ?_)))
              refine l_op (x_p (pv_idx Tryz.underlying65 (.ofC tc_3) hrn (fun hg=>⟨rfl,(mapget hx)⟩) (.s rfl rfl rfl) rfl rfl rfl gB) rfl rfl ?_)
              refine l_op (x_r (rv_ldat (j:=0) tc_3 (Rd.ent hrn (eJ (by repeat constructor))) (fun hg=>(mapget hx)) (.s rfl rfl rfl) rfl rfl gA rfl fR) rfl rfl ?_)
              refine l_op (x_p (pv_geq (.s rfl rfl rfl) rfl rfl rfl gB) rfl rfl ?_)
              refine l_op (x_p (pv_or (.n rfl) rfl rfl rfl (fun _=>⟨rfl,fun hc=>by first|rfl|(rw[hc];rfl)|simp_all⟩)) rfl rfl ?_)
              refine o_keep (kp [0,5,269] rfl) (r_cond _ rfl (fun h26=>?_) (fun h26=>?_))
              ·skip
               have hsh:x<0∨3≤x:=by simp at h26;omega
               have hss:shopS t x=([110,111,32]++Lib.itoa 1)++[10]:=by unfold shopS;rw[if_pos hsh];rfl
               have hit1:=Lib.itoa_length_le 1 (by omega) (by omega)
               refine r_sr (p_mv rfl rfl ?_)
               refine p_callv cf_33 (.c rfl .n) rfl (ref_num _ _ L 1 (by unfold i64;omega)) ?_
               refine l_op (x_p (pv_sadd (fun _=>by (try simp only[List.length_append,List.length_cons,List.length_nil]);omega) (.n rfl) rfl rfl rfl fS) rfl rfl ?_)
               refine p_callc cf_34 (.c rfl (.c rfl .n)) rfl (rdk_say _ b mb u _ (by simp only[List.length_append,List.length_cons,List.length_nil];omega)) ?_
               refine o_keep (kp [0,5] rfl) ?_
               refine r_retv hF rfl .n ?_ ?_
               ·rw[hln,hss];apply eI;repeat constructor
               ·rfl
              ·skip
               have hsh:¬ (x<0∨3≤x):=by simp at h26;omega
               obtain⟨i,hix⟩:∃ i:Nat,x=(i:Int):=⟨x.toNat,by omega⟩
               have hi3:i<3:=by omega
               obtain⟨k,hk3⟩:=getlt (l:=t.ks) (i:=i) (by omega)
               obtain⟨hK,hkn,hkw⟩:=hTI.k i k hk3
               have hh1:=hK.sh.holds_le
               have hh2:=hK.sh.over_le
               have hss:shopS t x=cntU k.shop 2++holdU k.shop.holds++[101,110,100,10]:=by unfold shopS;rw[if_neg hsh,show x.toNat=i by omega,hk3];simp[cntU]
               have hcl0:=listS_len [99,111,117,110,116] hK.sh.cnt.1
               have hcl1:=listS_len [99,111,117,110,116] hK.sh.cnt.2
               simp only[List.length_cons,List.length_nil] at hcl0 hcl1
               refine r_skip (r_seq ?_)
               refine r_sel (marketP mb t) ?_
               refine r_market fun lv ov ts p0 p1 p2 bv hts=>?_
               refine r_cat ?_
               refine r_many (P:=penP) (bs:=[p0,p1,p2]) i (cAt_get hi3) hk3 ?_
               refine r_ex2 fun bb2 pv=>?_
               refine r_cat ?_
               refine r_sel (boothP bb2 k.shop) ?_
               refine r_ex3 fun hv xv dv=>?_
               refine r_cat ?_
               refine r_rd hv fun hrh=>?_
               refine r_plan _ [] mo (kp [0,5] rfl) Ent.rfl ?_
               refine yp 0 [.k 0] rfl rfl (by kernel_rfl) (u_mv rfl rfl rfl) (yp 1 [.o 0] rfl rfl (by kernel_rfl) (u_nil rfl rfl rfl) (yp 2 [.o 1] rfl rfl (by kernel_rfl) (u_fa fa_50_1 rfl rfl rfl) (yr 3 [.o 2] rfl rfl (by kernel_rfl) (fun He=>u_ldc tc_47 rfl rfl rfl (by rfl)) ?_)))
               refine yr 4 [.k 5] rfl rfl (by kernel_rfl) (fun He=>u_ldc tc_65 rfl rfl rfl (by rfl)) ?_
               refine yp 5 [.o 4] rfl rfl (by kernel_rfl) (pv_idx Tryz.underlying65 (.ofC tc_3) hrn (fun hg=>⟨rfl,(mapget hx)⟩) (.n rfl) rfl rfl rfl fS) ?_
               refine yr 6 [.o 5] rfl rfl (by kernel_rfl) (fun He=>rv_ldat (j:=0) tc_3 (Rd.ent hrn (eJ (by repeat constructor))) (fun hg=>(mapget hx)) (.n rfl) rfl rfl fR rfl fR) ?_
               refine yp 7 [.o 3] rfl rfl (by kernel_rfl) (u_nil rfl rfl rfl) (yp 8 [.o 7] rfl rfl (by kernel_rfl) (u_fa fa_73_2 rfl rfl rfl) (yp 9 [.o 8,.o 6] rfl rfl (by kernel_rfl) (pv_aidx (i:=i) Tryz.underlying69 (.ofC tc_68) (fun hg=>⟨hix,hi3⟩) (.n rfl) rfl rfl rfl fS) ?_))
               refine yr 10 [.o 9] rfl rfl (by kernel_rfl) (fun He=>q_ldci (i:=8+i) tc_68 (.n rfl) rfl rfl fR (by omega) (mk_cell hi3)) ?_
               refine yp 11 [.o 10] rfl rfl (by kernel_rfl) (u_as rfl rfl rfl) ?_
               refine qm_n (by kernel_rfl) (by kernel_rfl) (by kernel_rfl) (by kernel_rfl) (kp [0,16] rfl) ?_
               refine r_sr (p_mv rfl rfl (p_nil rfl rfl (p_fa fa_110_0 rfl rfl (p_ldc tc_107 rfl (by rfl) rfl ?_))))
               refine p_callv cf_44 (.c rfl .n) rfl ((booth_Counts_o _ bb2 k.shop hK.sh hv xv dv).q) ?_
               refine p_alloc zr_105 rfl fun b17=>?_
               refine p_store (.ofA ta_105) rfl rfl rfl (by first|rfl|exact rfl) (by first|rfl|exact (by first|rfl|simp[vI,Value.oneCell'])) (Ins.whole (by first|rfl|(simp only[List.length_map,List.length_cons,List.length_nil];omega)|(simp[*];done)|(simp[*];rfl))) ?_
               refine o_keep (.c 0 rfl (.c 16 rfl (.c 17 rfl .n))) (r_seq (r_sr (p_as rfl rfl (o_keep (.c 0 rfl (.c 16 rfl (.c 17 rfl (.c 18 rfl .n)))) (r_block ?_)))))
               refine r_loop_2 (fun (q:Nat) (u1:List UInt8)=>[(18,true,.int .i64 (q:Int))]) (kp [0,16,17] rfl) (fun (q:Nat) (u1:List UInt8)=>blk b [str (u1),ptr mb] 50::blk b17 (cntL k.shop.c0++cntL k.shop.c1) 105::blk mb (lv::ov::mkR t.ws p0 p1 p2 bv) 73::sl lv 148 4 (List.zipWith rowD ts t.b.l)::sl ov 3 1 (t.b.order.map rI)::manyP bdealP ts t.b.l::restP penP [p0,p1,p2] t.ks i::sl bv 139 6 (t.post.map rM)::blk (cAt p0 p1 p2 i) [ptr bb2,pv] 110::sl pv 181 5 (k.l.map rR)::blk bb2 (boC k.shop hv xv dv) 114::sl hv 116 3 (k.shop.holds.map rH)::sl xv 3 1 ((k.shop.over.map (·.deal)).map rI)::sl dv 3 1 ((k.shop.over.map dnI).map rI)::R) (fun (q:Nat) (u1:List UInt8)=>q≤2∧u1=u++cntU k.shop q∧u1.length≤u.length+100*q) (fun (q:Nat) (u1:List UInt8)=>2 - q) (0) (u) ?_ (kp [18] rfl) ?_ (fun q u1 hI=>?_)
               ·exact⟨Nat.zero_le _,by simp[cntU],by omega⟩
               ·apply eI;repeat constructor
               ·skip
                obtain⟨hq0,hU,hUl⟩:=hI
                refine r_seq (r_sr (p_mv rfl rfl (p_lss rfl rfl rfl (o_keep (kp [0,16,17,18,291] rfl) (r_cond _ rfl (fun h27=>?_) (fun h27=>?_))))))
                ·skip
                 have hq2:q<2:=by have:=of_decide_eq_true h27;omega
                 refine r_skip (r_seq (r_block ?_))
                 rcases (show q=0∨q=1 by omega) with rfl|rfl
                 ·skip
                  refine r_plan _ [] mo (kp [0,16,17,18] rfl) Ent.rfl ?_
                  refine yp 0 [.k 0] rfl rfl (by kernel_rfl) (u_mv rfl rfl rfl) (yp 1 [.k 18] rfl rfl (by kernel_rfl) (u_mv rfl rfl rfl) (yp 2 [.k 17,.o 1] rfl rfl (by kernel_rfl) (pv_aidx (i:=0) Tryz.underlying105 (.ofA ta_104) (fun hg=>⟨rfl,by omega⟩) (.n rfl) rfl rfl rfl fS) ?_))
                  refine yp 3 [.o 2] rfl rfl (by kernel_rfl) (u_fa fa_104_0 rfl rfl rfl) (yr 4 [.o 3] rfl rfl (by kernel_rfl) (fun He=>u_ldc tc_3 rfl rfl rfl (by rfl)) ?_)
                  refine yp 5 [.k 18] rfl rfl (by kernel_rfl) (u_mv rfl rfl rfl) (yp 6 [.k 17,.o 5] rfl rfl (by kernel_rfl) (pv_aidx (i:=0) Tryz.underlying105 (.ofA ta_104) (fun hg=>⟨rfl,by omega⟩) (.n rfl) rfl rfl rfl fS) (yp 7 [.o 6] rfl rfl (by kernel_rfl) (u_fa fa_104_1 rfl rfl rfl) ?_))
                  refine yr 8 [.o 7] rfl rfl (by kernel_rfl) (fun He=>u_ldc tc_3 rfl rfl rfl (by rfl)) ?_
                  refine yp 9 [.k 18] rfl rfl (by kernel_rfl) (u_mv rfl rfl rfl) (yp 10 [.k 17,.o 9] rfl rfl (by kernel_rfl) (pv_aidx (i:=0) Tryz.underlying105 (.ofA ta_104) (fun hg=>⟨rfl,by omega⟩) (.n rfl) rfl rfl rfl fS) (yp 11 [.o 10] rfl rfl (by kernel_rfl) (u_fa fa_104_2 rfl rfl rfl) ?_))
                  refine yr 12 [.o 11] rfl rfl (by kernel_rfl) (fun He=>u_ldc tc_3 rfl rfl rfl (by rfl)) ?_
                  refine qm_bsl Tryz.underlying65 (.ofC tc_3) zr_3 (i:=13) [.o 4,.o 8,.o 12] (by kernel_rfl) (by kernel_rfl) rfl rfl rfl rfl (by kernel_rfl) (by kernel_rfl) ⟨_,.n rfl,rfl⟩ rfl (.c rfl rfl rfl (.c rfl rfl rfl (.c rfl rfl rfl .n))) (rows:=([_,_,_]:List Int).map rI) rfl rfl rfl fun b307 hr307=>?_
                  refine qb_callc (i:=14) [.o 0,.o 13] (by kernel_rfl) (by kernel_rfl) rfl rfl rfl rfl (by kernel_rfl) (by kernel_rfl) (by kernel_rfl) ⟨_,.n rfl,rfl⟩ cf_39 rfl (.c rfl (.c rfl (.c rfl .n))) (rdk_list _ L b mb u1 _ [99,111,117,110,116] _ [k.shop.c0.v,k.shop.c0.o,k.shop.c0.i] hr307 hK.sh.cnt.1 (by simp) (by simp;omega)) ?_
                  refine qm_n (by kernel_rfl) (by kernel_rfl) (by kernel_rfl) (by kernel_rfl) (kp [0,16,17,18] rfl) ?_
                  refine r_end (r_region (p_mv rfl rfl (p_add rfl rfl (by omega) rfl (p_as rfl rfl (o_keep (kp [0,16,17,18] rfl) ?_)))))
                  refine r_back_2 (0+1) (u1++listS [99,111,117,110,116] [k.shop.c0.v,k.shop.c0.o,k.shop.c0.i]) ?_ ?_ (Keep.app (kp [18] rfl) (kp [0,16,17] rfl)) ?_
                  ·exact⟨by omega,by rw[hU];simp[cntU,countS],by rw[List.length_append];omega⟩
                  ·omega
                  ·apply eI;repeat constructor
                 ·skip
                  refine r_plan _ [] mo (kp [0,16,17,18] rfl) Ent.rfl ?_
                  refine yp 0 [.k 0] rfl rfl (by kernel_rfl) (u_mv rfl rfl rfl) (yp 1 [.k 18] rfl rfl (by kernel_rfl) (u_mv rfl rfl rfl) (yp 2 [.k 17,.o 1] rfl rfl (by kernel_rfl) (pv_aidx (i:=1) Tryz.underlying105 (.ofA ta_104) (fun hg=>⟨rfl,by omega⟩) (.n rfl) rfl rfl rfl fS) ?_))
                  refine yp 3 [.o 2] rfl rfl (by kernel_rfl) (u_fa fa_104_0 rfl rfl rfl) (yr 4 [.o 3] rfl rfl (by kernel_rfl) (fun He=>u_ldc tc_3 rfl rfl rfl (by rfl)) ?_)
                  refine yp 5 [.k 18] rfl rfl (by kernel_rfl) (u_mv rfl rfl rfl) (yp 6 [.k 17,.o 5] rfl rfl (by kernel_rfl) (pv_aidx (i:=1) Tryz.underlying105 (.ofA ta_104) (fun hg=>⟨rfl,by omega⟩) (.n rfl) rfl rfl rfl fS) (yp 7 [.o 6] rfl rfl (by kernel_rfl) (u_fa fa_104_1 rfl rfl rfl) ?_))
                  refine yr 8 [.o 7] rfl rfl (by kernel_rfl) (fun He=>u_ldc tc_3 rfl rfl rfl (by rfl)) ?_
                  refine yp 9 [.k 18] rfl rfl (by kernel_rfl) (u_mv rfl rfl rfl) (yp 10 [.k 17,.o 9] rfl rfl (by kernel_rfl) (pv_aidx (i:=1) Tryz.underlying105 (.ofA ta_104) (fun hg=>⟨rfl,by omega⟩) (.n rfl) rfl rfl rfl fS) (yp 11 [.o 10] rfl rfl (by kernel_rfl) (u_fa fa_104_2 rfl rfl rfl) ?_))
                  refine yr 12 [.o 11] rfl rfl (by kernel_rfl) (fun He=>u_ldc tc_3 rfl rfl rfl (by rfl)) ?_
                  refine qm_bsl Tryz.underlying65 (.ofC tc_3) zr_3 (i:=13) [.o 4,.o 8,.o 12] (by kernel_rfl) (by kernel_rfl) rfl rfl rfl rfl (by kernel_rfl) (by kernel_rfl) ⟨_,.n rfl,rfl⟩ rfl (.c rfl rfl rfl (.c rfl rfl rfl (.c rfl rfl rfl .n))) (rows:=([_,_,_]:List Int).map rI) rfl rfl rfl fun b307 hr307=>?_
                  refine qb_callc (i:=14) [.o 0,.o 13] (by kernel_rfl) (by kernel_rfl) rfl rfl rfl rfl (by kernel_rfl) (by kernel_rfl) (by kernel_rfl) ⟨_,.n rfl,rfl⟩ cf_39 rfl (.c rfl (.c rfl (.c rfl .n))) (rdk_list _ L b mb u1 _ [99,111,117,110,116] _ [k.shop.c1.v,k.shop.c1.o,k.shop.c1.i] hr307 hK.sh.cnt.2 (by simp) (by simp;omega)) ?_
                  refine qm_n (by kernel_rfl) (by kernel_rfl) (by kernel_rfl) (by kernel_rfl) (kp [0,16,17,18] rfl) ?_
                  refine r_end (r_region (p_mv rfl rfl (p_add rfl rfl (by omega) rfl (p_as rfl rfl (o_keep (kp [0,16,17,18] rfl) ?_)))))
                  refine r_back_2 (1+1) (u1++listS [99,111,117,110,116] [k.shop.c1.v,k.shop.c1.o,k.shop.c1.i]) ?_ ?_ (Keep.app (kp [18] rfl) (kp [0,16,17] rfl)) ?_
                  ·exact⟨by omega,by rw[hU];simp[cntU,countS],by rw[List.length_append];omega⟩
                  ·omega
                  ·apply eI;repeat constructor
                ·skip
                 have hq2:q=2:=by have:=of_decide_eq_false h27;omega
                 subst hq2
                 refine r_exit rfl (r_seq (r_sr (p_as rfl rfl (o_keep (kp [0,16,19] rfl) (r_block ?_)))))
                 refine r_loop_2 (fun (j:Nat) (u2:List UInt8)=>[(19,true,.int .i64 (j:Int))]) (kp [0,16] rfl) (fun (j:Nat) (u2:List UInt8)=>blk b [str (u2),ptr mb] 50::blk b17 (cntL k.shop.c0++cntL k.shop.c1) 105::blk mb (lv::ov::mkR t.ws p0 p1 p2 bv) 73::sl lv 148 4 (List.zipWith rowD ts t.b.l)::sl ov 3 1 (t.b.order.map rI)::manyP bdealP ts t.b.l::restP penP [p0,p1,p2] t.ks i::sl bv 139 6 (t.post.map rM)::blk (cAt p0 p1 p2 i) [ptr bb2,pv] 110::sl pv 181 5 (k.l.map rR)::blk bb2 (boC k.shop hv xv dv) 114::sl hv 116 3 (k.shop.holds.map rH)::sl xv 3 1 ((k.shop.over.map (·.deal)).map rI)::sl dv 3 1 ((k.shop.over.map dnI).map rI)::R) (fun (j:Nat) (u2:List UInt8)=>j≤k.shop.holds.length∧u2=u1++holdU (k.shop.holds.take j)∧u2.length≤u1.length+100*j) (fun (j:Nat) (u2:List UInt8)=>k.shop.holds.length - j) (0) (u1) ?_ (kp [19] rfl) ?_ (fun j u2 hI=>?_)
                 ·exact⟨Nat.zero_le _,by simp[holdU],by omega⟩
                 ·apply eI;repeat constructor
                 ·skip
                  obtain⟨hj0,hV,hVl⟩:=hI
                  refine r_seq (r_sr (p_mv rfl rfl (p_mv rfl rfl (p_nil rfl rfl (p_fa fa_110_0 rfl rfl (p_ldc tc_107 rfl (by rfl) rfl ?_))))))
                  refine p_nil rfl rfl (p_fa fa_114_2 rfl rfl (p_ldc tc_112 rfl (by rfl) rfl ?_))
                  refine l_op (x_p (pv_lens (Rd.len hrh) ⟨_,Tryz.underlying112⟩ (.n rfl) rfl rfl rfl rfl fR) rfl rfl (p_lss rfl rfl rfl (o_keep (kp [0,16,19,318] rfl) (r_cond _ rfl (fun h28=>?_) (fun h28=>?_)))))
                  ·skip
                   obtain⟨z,hz⟩:=getlt (l:=k.shop.holds) (i:=j) (by have:=of_decide_eq_true h28;omega)
                   have hjl:=(List.getElem?_eq_some_iff.1 hz).1
                   have hcr:=hK.sh.hold (List.mem_of_getElem? hz)
                   have hclz:=listS_len [104,111,108,100] hcr
                   simp only[List.length_cons,List.length_nil] at hclz
                   refine r_skip (r_seq (r_block ?_))
                   refine r_plan _ [] mo (kp [0,16,19] rfl) Ent.rfl ?_
                   refine yp 0 [.k 0] rfl rfl (by kernel_rfl) (u_mv rfl rfl rfl) (yp 1 [.k 16] rfl rfl (by kernel_rfl) (u_mv rfl rfl rfl) (yp 2 [.o 1] rfl rfl (by kernel_rfl) (u_nil rfl rfl rfl) (yp 3 [.o 2] rfl rfl (by kernel_rfl) (u_fa fa_110_0 rfl rfl rfl) (yr 4 [.o 3] rfl rfl (by kernel_rfl) (fun He=>u_ldc tc_107 rfl rfl rfl (by rfl)) ?_))))
                   refine yp 5 [.o 4] rfl rfl (by kernel_rfl) (u_nil rfl rfl rfl) (yp 6 [.o 5] rfl rfl (by kernel_rfl) (u_fa fa_114_2 rfl rfl rfl) (yr 7 [.o 6] rfl rfl (by kernel_rfl) (fun He=>u_ldc tc_112 rfl rfl rfl (by rfl)) ?_))
                   refine yp 8 [.k 19] rfl rfl (by kernel_rfl) (u_mv rfl rfl rfl) (yp 9 [.o 7,.o 8] rfl rfl (by kernel_rfl) (pv_idx Tryz.underlying112 (.ofA ta_116) hrh (fun hg=>⟨rfl,(mapget hz)⟩) (.n rfl) rfl rfl rfl fS) (yp 10 [.o 9] rfl rfl (by kernel_rfl) (pv_faat fa_116_0 (fun hg=>Rd.sh hrh (mapget hz)) (.n rfl) rfl rfl fR) ?_))
                   refine yr 11 [.o 10] rfl rfl (by kernel_rfl) (fun He=>rv_ldat (j:=0) tc_3 (Rd.ent hrh (eJ (by repeat constructor))) (fun hg=>(mapget hz)) (.n rfl) rfl rfl fR rfl fR) ?_
                   refine yp 12 [.k 16] rfl rfl (by kernel_rfl) (u_mv rfl rfl rfl) (yp 13 [.o 12] rfl rfl (by kernel_rfl) (u_nil rfl rfl rfl) (yp 14 [.o 13] rfl rfl (by kernel_rfl) (u_fa fa_110_0 rfl rfl rfl) (yr 15 [.o 14] rfl rfl (by kernel_rfl) (fun He=>u_ldc tc_107 rfl rfl rfl (by rfl)) ?_)))
                   refine yp 16 [.o 15] rfl rfl (by kernel_rfl) (u_nil rfl rfl rfl) (yp 17 [.o 16] rfl rfl (by kernel_rfl) (u_fa fa_114_2 rfl rfl rfl) (yr 18 [.o 17] rfl rfl (by kernel_rfl) (fun He=>u_ldc tc_112 rfl rfl rfl (by rfl)) ?_))
                   refine yp 19 [.k 19] rfl rfl (by kernel_rfl) (u_mv rfl rfl rfl) (yp 20 [.o 18,.o 19] rfl rfl (by kernel_rfl) (pv_idx Tryz.underlying112 (.ofA ta_116) hrh (fun hg=>⟨rfl,(mapget hz)⟩) (.n rfl) rfl rfl rfl fS) ?_)
                   refine yp 21 [.o 20] rfl rfl (by kernel_rfl) (pv_faat fa_116_1 (fun hg=>Rd.sh hrh (mapget hz)) (.n rfl) rfl rfl fR) ?_
                   refine yr 22 [.o 21] rfl rfl (by kernel_rfl) (fun He=>rv_ldat (j:=1) tc_3 (Rd.ent hrh (eJ (by repeat constructor))) (fun hg=>(mapget hz)) (.n rfl) rfl rfl fR rfl fR) ?_
                   refine yp 23 [.k 16] rfl rfl (by kernel_rfl) (u_mv rfl rfl rfl) (yp 24 [.o 23] rfl rfl (by kernel_rfl) (u_nil rfl rfl rfl) (yp 25 [.o 24] rfl rfl (by kernel_rfl) (u_fa fa_110_0 rfl rfl rfl) (yr 26 [.o 25] rfl rfl (by kernel_rfl) (fun He=>u_ldc tc_107 rfl rfl rfl (by rfl)) ?_)))
                   refine yp 27 [.o 26] rfl rfl (by kernel_rfl) (u_nil rfl rfl rfl) (yp 28 [.o 27] rfl rfl (by kernel_rfl) (u_fa fa_114_2 rfl rfl rfl) (yr 29 [.o 28] rfl rfl (by kernel_rfl) (fun He=>u_ldc tc_112 rfl rfl rfl (by rfl)) ?_))
                   refine yp 30 [.k 19] rfl rfl (by kernel_rfl) (u_mv rfl rfl rfl) (yp 31 [.o 29,.o 30] rfl rfl (by kernel_rfl) (pv_idx Tryz.underlying112 (.ofA ta_116) hrh (fun hg=>⟨rfl,(mapget hz)⟩) (.n rfl) rfl rfl rfl fS) ?_)
                   refine yp 32 [.o 31] rfl rfl (by kernel_rfl) (pv_faat fa_116_2 (fun hg=>Rd.sh hrh (mapget hz)) (.n rfl) rfl rfl fR) ?_
                   refine yr 33 [.o 32] rfl rfl (by kernel_rfl) (fun He=>rv_ldat (j:=2) tc_3 (Rd.ent hrh (eJ (by repeat constructor))) (fun hg=>(mapget hz)) (.n rfl) rfl rfl fR rfl fR) ?_
                   refine qm_bsl Tryz.underlying65 (.ofC tc_3) zr_3 (i:=34) [.o 11,.o 22,.o 33] (by kernel_rfl) (by kernel_rfl) rfl rfl rfl rfl (by kernel_rfl) (by kernel_rfl) ⟨_,.n rfl,rfl⟩ rfl (.c rfl rfl rfl (.c rfl rfl rfl (.c rfl rfl rfl .n))) (rows:=([z.deal,z.ctr,z.dl]:List Int).map rI) rfl rfl rfl fun b355 hr355=>?_
                   refine qb_callc (i:=35) [.o 0,.o 34] (by kernel_rfl) (by kernel_rfl) rfl rfl rfl rfl (by kernel_rfl) (by kernel_rfl) (by kernel_rfl) ⟨_,.n rfl,rfl⟩ cf_39 rfl (.c rfl (.c rfl (.c rfl .n))) (rdk_list _ L b mb u2 _ [104,111,108,100] _ [z.deal,z.ctr,z.dl] hr355 hcr (by simp) (by simp;omega)) ?_
                   refine qm_n (by kernel_rfl) (by kernel_rfl) (by kernel_rfl) (by kernel_rfl) (kp [0,16,19] rfl) ?_
                   refine r_end (r_region (p_mv rfl rfl (p_add rfl rfl (by omega) rfl (p_as rfl rfl (o_keep (kp [0,16,19] rfl) ?_)))))
                   refine r_back_2 (j+1) (u2++listS [104,111,108,100] [z.deal,z.ctr,z.dl]) ?_ ?_ (Keep.app (kp [19] rfl) (kp [0,16] rfl)) ?_
                   ·exact⟨by omega,by rw[holdU_take hz,hV];simp only[List.append_assoc],by rw[List.length_append];omega⟩
                   ·omega
                   ·apply eI;repeat constructor
                  ·skip
                   have hjl:k.shop.holds.length≤j:=by have:=of_decide_eq_false h28;omega
                   rw[List.take_of_length_le hjl] at hV
                   refine r_exit rfl (r_region (p_mv rfl rfl ?_))
                   refine p_callc cf_34 (.c rfl (.c rfl .n)) rfl (rdk_say _ b mb u2 [101,110,100] (by simp;omega)) ?_
                   refine o_keep (.n) (r_end ?_)
                   refine r_fallc hF rfl ?_
                   ·rw[hln];dsimp only;rw[show u++shopS t x=u2++([101,110,100]++[10]) by rw[hss,hV,hU];simp only[List.append_assoc];rfl];refine Ent.catI ?_;refine Ent.c (SelB.ent) ?_;refine Ent.tr (boothP_close (b:=bb2) (s:=k.shop) hv xv dv rfl rfl rfl rfl) ?_;refine Ent.tr (penP_close (b:=cAt p0 p1 p2 i) (k:=k) bb2 pv rfl rfl) ?_;refine Ent.tr (Ent.mono (SelX.ent (X:=restP penP [p0,p1,p2] t.ks i))) ?_;refine Ent.tr (many_back (cAt_get hi3) hk3) ?_;refine Ent.c (marketP_close (t:=t) lv ov ts p0 p1 p2 bv hts rfl rfl rfl rfl) ?_;apply eI;repeat constructor
             ·skip
              have hn7:=is_f (k:=1) h25
              have hk:askT t w0 ns=(t,[119,104,97,116]++[10]):=by unfold askT;rw[if_neg hn0,if_neg hn1,if_neg hn2,if_neg hn3,if_neg hn4,if_neg hn5,if_neg hn6,if_neg hn7];rfl
              have hln:lineT t s=(t,[119,104,97,116]++[10]):=by rw[hcm];unfold cmdT;rw[hxk];exact hk
              refine r_region (p_mv rfl rfl ?_)
              refine p_callc cf_34 (.c rfl (.c rfl .n)) rfl (rdk_say _ b mb u [119,104,97,116] (by simp;omega)) ?_
              refine o_keep (.n) (r_end ?_)
              refine r_fallc hF rfl ?_
              ·rw[hln];apply eI;repeat constructor
end Go.Proofs.YtmakdilmibjpbaaGreatDoor
