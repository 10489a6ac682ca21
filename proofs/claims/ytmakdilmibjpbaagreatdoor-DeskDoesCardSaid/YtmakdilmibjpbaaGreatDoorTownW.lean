/- The walks of TownW: written by a program of ours (gen.py) over the engine. -/
import Derived.Test.YtmakdilmibjpbaaGreatDoorWants
import Derived.Test.YtmakdilmibjpbaaGreatDoorFacts
import Derived.Test.YtmakdilmibjpbaaGreatDoorDeskP
import Derived.Test.YtmakdilmibjpbaaGreatDoorBrokW2
import Derived.Test.YtmakdilmibjpbaaGreatDoorClerkW
import Derived.Test.YtmakdilmibjpbaaGreatDoorPostW
import Derived.Test.YtmakdilmibjpbaaGreatDoorTlaws
import Derived.Test.YtmakdilmibjpbaaGreatDoorPlanW
import Derived.Test.YtmakdilmibjpbaaGreatDoorElt
namespace Go.Proofs.YtmakdilmibjpbaaGreatDoor
open Go Go.RowKit
set_option linter.unusedVariables false
set_option linter.unusedSimpArgs false
set_option maxRecDepth 20000
theorem post_Take_n (M:Amb)(b:Nat)(l:List Mail)(hb:l.length≤100000)(n:Int)(h:takeM l n=none):FnC Tryz.prog M 136 [ptr b,.int .i64 n] (.tuple #[vM Mail.z,.bool false]) [postP b l] [postP b l]:=by
  have:=post_Take M b l hb n
  rwa [h,takeM_none h] at this
theorem post_Take_s (M:Amb)(b:Nat)(l:List Mail)(hb:l.length≤100000)(n:Int)(m:Mail)(h:takeM l n=some m):FnC Tryz.prog M 136 [ptr b,.int .i64 n] (.tuple #[vM m,.bool true]) [postP b l] [postP b (takeL l n)]:=by
  have:=post_Take M b l hb n
  rwa [h] at this
theorem town_Clerk_o (M:Amb)(b bb:Nat)(ws:List Int)(c0 c1 c2 pb:Nat)(s:Int):FnC Tryz.prog M 100 [ptr b,.int .i64 s] ((if s<0∨3≤s then .pointer Option.none else ptr (cAt c0 c1 c2 s.toNat))) [blk b (tnC bb ws c0 c1 c2 pb) 62] [blk b (tnC bb ws c0 c1 c2 pb) 62]:=by
 refine fnc_intro Tryz.func100 rfl Tryz.ntmps100 rfl fun R F hF=>?_
 refine r_cat ?_
 refine r_sr (p_as rfl rfl (o_keep (kp [0,1,4] rfl) (r_seq (r_sr (p_mv rfl rfl (p_lss rfl rfl rfl (p_mv rfl rfl ?_)))))))
 refine l_op (x_p (pv_mv (.s rfl rfl rfl) rfl rfl gA) rfl rfl ?_)
 refine l_op (x_p (pv_geq (.s rfl rfl rfl) rfl rfl rfl gB) rfl rfl ?_)
 refine l_op (x_p (pv_or (.n rfl) rfl rfl rfl (fun _=>⟨rfl,fun hc=>by first|rfl|(rw[hc];rfl)|simp_all⟩)) rfl rfl ?_)
 refine o_keep (kp [0,1,4,10] rfl) (r_cond _ rfl (fun h1=>?_) (fun h1=>?_))
 ·skip
  have hs:s<0∨3≤s:=by simp at h1;omega
  refine r_sr (p_as rfl rfl (o_keep (kp [0,1,4] rfl) ?_))
  refine r_retv hF rfl (.c (.t rfl) .n) ?_ ?_
  ·refine Ent.catI ?_;apply eI;repeat constructor
  ·rw[if_pos hs];rfl
 ·skip
  have hs:¬ (s<0∨3≤s):=by simp at h1;omega
  obtain⟨i,hi⟩:∃ i:Nat,s=(i:Int):=⟨s.toNat,by omega⟩
  have hlt:i<3:=by omega
  have hti:s.toNat=i:=by omega
  refine r_skip (r_sr (p_mv rfl rfl (p_mv rfl rfl (p_nil rfl rfl (p_fa fa_62_2 rfl rfl (l_op (x_p (pv_aidx (i:=i) Tryz.underlying60 (.ofC tc_59) (fun hg=>⟨hi,hlt⟩) (.n rfl) rfl rfl rfl fS) rfl rfl (l_op (x_r (q_ldci (i:=7+i) tc_59 (.n rfl) rfl rfl fR (by omega) (tn_cell hlt)) rfl rfl ?_)))))))))
  refine p_as rfl rfl (o_keep (kp [4] rfl) ?_)
  refine r_retv hF rfl (.c (.t rfl) .n) ?_ ?_
  ·refine Ent.catI ?_;apply eI;repeat constructor
  ·rw[if_neg hs,hti];rfl
theorem town_Clerk_n (M:Amb)(b bb:Nat)(ws:List Int)(c0 c1 c2 pb:Nat)(s:Int)(h:s<0∨3≤s):FnC Tryz.prog M 100 [ptr b,.int .i64 s] (.pointer Option.none) [blk b (tnC bb ws c0 c1 c2 pb) 62] [blk b (tnC bb ws c0 c1 c2 pb) 62]:=by
  have:=town_Clerk_o M b bb ws c0 c1 c2 pb s
  rwa [if_pos h] at this
theorem town_Clerk_s (M:Amb)(b bb:Nat)(ws:List Int)(c0 c1 c2 pb:Nat)(s:Int)(i:Nat)(h:s=(i:Int))(hi:i<3):FnC Tryz.prog M 100 [ptr b,.int .i64 s] (ptr (cAt c0 c1 c2 i)) [blk b (tnC bb ws c0 c1 c2 pb) 62] [blk b (tnC bb ws c0 c1 c2 pb) 62]:=by
  have:=town_Clerk_o M b bb ws c0 c1 c2 pb s
  rw[if_neg (by omega),show s.toNat=i by omega] at this
  exact this
theorem town_Mail (M:Amb)(b:Nat)(t:TownS)(hI:TInv t):FnE (α:=Value) Tryz.prog M 66 [ptr b] [townP b t] (fun x=>x) (fun x=>[sl x 139 6 (t.post.map rM),townP b t]):=by
 have hfull:=hI.full
 have hlen3:=hI.len
 have hw6:=hI.ws6
 refine fne_intro Tryz.func66 rfl Tryz.ntmps66 rfl fun R F hF=>?_
 refine r_cat ?_
 refine r_town fun bb c0 c1 c2 pb=>?_
 refine r_cat ?_
 refine r_sr (p_as rfl rfl (o_keep (kp [0,2] rfl) (r_sr (p_mv rfl rfl (p_nil rfl rfl (p_fa fa_62_3 rfl rfl (p_ldc tc_57 rfl (by rfl) rfl ?_)))))))
 refine p_calle cf_110 (.c rfl .n) rfl (post_List _ pb t.post (by omega)) fun lv=>?_
 refine o_cat ?_
 refine p_as rfl rfl (o_keep (kp [2] rfl) ?_)
 refine r_rete (lv) hF rfl (.c (.t rfl) .n) ?_ ?_
 ·refine Ent.catI ?_;refine Ent.c (SelS.ent) ?_;refine Ent.c (townP_close (t:=t) bb c0 c1 c2 pb rfl) ?_;apply eI;repeat constructor
 ·rfl
theorem town_tick (M:Amb)(b:Nat)(t:TownS)(hI:TInv t):FnC Tryz.prog M 97 [ptr b] (resVal []) [townP b t] [townP b (tickT t)]:=by
 have hfull:=hI.full
 have hlen3:=hI.len
 have hw6:=hI.ws6
 have hdl:=hI.b.due_len
 refine fnc_intro Tryz.func97 rfl Tryz.ntmps97 rfl fun R F hF=>?_
 refine r_cat ?_
 refine r_town fun bb c0 c1 c2 pb=>?_
 refine r_cat ?_
 refine r_sr (p_mv rfl rfl (p_nil rfl rfl (p_fa fa_62_0 rfl rfl (p_ldc tc_55 rfl (by rfl) rfl ?_))))
 refine p_calle cf_67 (.c rfl .n) rfl (broker_Due _ bb t.b hI.b) fun dv=>?_
 refine o_cat ?_
 refine o_rd dv fun hrd=>?_
 refine l_op (x_p (pv_lens (Rd.len hrd) ⟨_,Tryz.underlying70⟩ (.n rfl) rfl rfl rfl rfl fR) rfl rfl (p_mv rfl rfl (o_keep (kp [0,8,9,10] rfl) (r_block ?_))))
 refine r_loop_2 (fun (i:Nat) (ps:List Mail)=>[(10,true,.int .i64 (i:Int))]) (kp [0,8,9] rfl) (fun (i:Nat) (ps:List Mail)=>sl dv 139 6 ((dueB t.b).map rM)::blk b (tnC bb t.ws c0 c1 c2 pb) 62::brokP bb t.b::manyP clerkP [c0,c1,c2] t.ks::postP pb ps::R) (fun (i:Nat) (ps:List Mail)=>i≤(dueB t.b).length∧(dueB t.b).foldl sendL t.post=((dueB t.b).drop i).foldl sendL ps∧ps.length≤40) (fun (i:Nat) (ps:List Mail)=>(dueB t.b).length - i) (0) (t.post) ?_ (kp [10] rfl) ?_ (fun i ps hI=>?_)
 ·exact⟨Nat.zero_le _,rfl,hfull⟩
 ·apply eI;repeat constructor
 ·skip
  obtain⟨hi,hF2,hps⟩:=hI
  refine r_sr (p_lss rfl rfl rfl (o_keep (kp [0,8,9,10,11] rfl) (r_seq (r_cond _ rfl (fun h1=>?_) (fun h1=>?_)))))
  ·skip
   obtain⟨m,hm⟩:=getlt (l:=dueB t.b) (i:=i) (by have:=of_decide_eq_true h1;omega)
   have hil:=(List.getElem?_eq_some_iff.1 hm).1
   rw[drop_at hm,List.foldl_cons] at hF2
   refine r_skip (r_seq (r_block (r_sr (p_idx Tryz.underlying70 (.ofA ta_139) hrd rfl (mapget hm) rfl rfl rfl ?_))))
   refine p_ldats 0 ta_139 (Rd.ent hrd (eJ (by repeat constructor))) (mapget hm) rfl rfl (.s (.s (.s (.s (.s (.s .z)))))) rfl ?_
   refine p_alloc zr_139 rfl fun b3=>?_
   refine p_store (.ofA ta_139) rfl rfl rfl (by first|rfl|exact rfl) (by first|rfl|exact rfl) (Ins.whole (by simp[*])) ?_
   refine o_keep (.c 0 rfl (.c 3 rfl (.c 8 rfl (.c 9 rfl (.c 10 rfl .n))))) ?_
   refine r_plan (_) ([postP pb ps]) mo (kp [0,3,8,9,10] rfl) (SelX.ent) ?_
   refine yp 0 [.k 0] rfl rfl (by kernel_rfl) (u_mv rfl rfl rfl) (yp 1 [.o 0] rfl rfl (by kernel_rfl) (u_nil rfl rfl rfl) (yp 2 [.o 1] rfl rfl (by kernel_rfl) (u_fa fa_62_3 rfl rfl rfl) (yr 3 [.o 2] rfl rfl (by kernel_rfl) (fun He=>u_ldc tc_57 rfl rfl rfl (by rfl)) ?_)))
   refine yr 4 [.k 3] rfl rfl (by kernel_rfl) (fun He=>q_lda ta_139 (.n rfl) rfl rfl fR (Tk.all rfl)) ?_
   refine qb_callc (i:=5) [.o 3,.o 4] (by kernel_rfl) (by kernel_rfl) rfl rfl rfl rfl (by kernel_rfl) (by kernel_rfl) (by kernel_rfl) ⟨_,.n rfl,rfl⟩ cf_135 rfl (.c rfl (.c rfl .n)) (post_Send _ pb ps (by omega) m) ?_
   refine qm_n (by kernel_rfl) (by kernel_rfl) (by kernel_rfl) (by kernel_rfl) (kp [0,8,9,10] rfl) ?_
   refine r_end (r_region (p_add rfl rfl (by omega) rfl (p_mv rfl rfl (o_keep (kp [0,8,9,10] rfl) ?_))))
   refine r_back_2 (i+1) (sendL ps m) ?_ ?_ (Keep.app (kp [10] rfl) (kp [0,8,9] rfl)) ?_
   ·exact⟨by omega,hF2,sendL_le hps⟩
   ·omega
   ·apply eI;repeat constructor
  ·skip
   have hj:(dueB t.b).length≤i:=by have:=of_decide_eq_false h1;omega
   rw[List.drop_eq_nil_of_le hj] at hF2
   have hT:tickT t={t with post:=ps}:=by unfold tickT;rw[hF2];rfl
   refine r_exit rfl ?_
   refine r_fallc hF rfl ?_
   ·refine Ent.catI ?_;rw[hT];refine Ent.c (townP_close (t:={t with post:=ps}) bb c0 c1 c2 pb rfl) ?_;apply eI;repeat constructor
theorem town_deliver (M:Amb)(b:Nat)(t:TownS)(hI:TInv t)(n:Int):FnC Tryz.prog M 104 [ptr b,.int .i64 n] (.int .i64 (deliverT t n).2) [townP b t] [townP b (deliverT t n).1]:=by
 have hfull:=hI.full
 have hlen3:=hI.len
 have hw6:=hI.ws6
 refine fnc_intro Tryz.func104 rfl Tryz.ntmps104 rfl fun R F hF=>?_
 refine r_cat ?_
 refine r_town fun bb c0 c1 c2 pb=>?_
 refine r_cat ?_
 refine r_sr (p_as rfl rfl (o_keep (kp [0,1,4] rfl) (r_seq ?_)))
 rcases hm:takeM t.post n with _|m
 ·skip
  have hs:=deliverT_n hm
  refine r_region (p_mv rfl rfl (p_nil rfl rfl (p_fa fa_62_3 rfl rfl (p_ldc tc_57 rfl (by rfl) rfl ?_))))
  refine p_mv rfl rfl ?_
  refine p_callc cf_136 (.c rfl (.c rfl .n)) rfl (post_Take_n _ pb t.post (by omega) n hm) ?_
  refine p_mv rfl rfl (p_ext rfl rfl rfl (p_ext rfl rfl rfl (p_alloc zr_139 rfl fun b5=>?_)))
  refine p_store (.ofA ta_139) rfl rfl rfl rfl rfl (Ins.whole rfl) ?_
  refine p_as rfl rfl (o_keep (kp [0,4,5,6] rfl) (r_seq (r_sr (p_mv rfl rfl (p_not rfl rfl (o_keep (kp [0,4,5,20] rfl) (r_cond _ rfl (fun h1=>?_) (fun h1=>?_))))))))
  ·skip
   refine r_sr (p_as rfl rfl (o_keep (kp [0,4,5] rfl) ?_))
   refine r_retv hF rfl (.c (.t rfl) .n) ?_ ?_
   ·refine Ent.catI ?_;rw[hs];refine Ent.c (townP_close (t:=t) bb c0 c1 c2 pb rfl) ?_;apply eI;repeat constructor
   ·rw[hs];rfl
  ·simp at h1
 ·skip
  have htl:=takeL_le (n:=n) hfull
  refine r_region (p_mv rfl rfl (p_nil rfl rfl (p_fa fa_62_3 rfl rfl (p_ldc tc_57 rfl (by rfl) rfl ?_))))
  refine p_mv rfl rfl ?_
  refine p_callc cf_136 (.c rfl (.c rfl .n)) rfl (post_Take_s _ pb t.post (by omega) n m hm) ?_
  refine p_mv rfl rfl (p_ext rfl rfl rfl (p_ext rfl rfl rfl (p_alloc zr_139 rfl fun b5=>?_)))
  refine p_store (.ofA ta_139) rfl rfl rfl (by first|rfl|exact rfl) (by first|rfl|exact rfl) (Ins.whole (by first|rfl|(simp only[List.length_map,List.length_cons,List.length_nil];omega)|(simp[*];done)|(simp[*];rfl))) ?_
  refine p_as rfl rfl (o_keep (.c 0 rfl (.c 4 rfl (.c 5 rfl (.c 6 rfl .n)))) (r_seq (r_sr (p_mv rfl rfl (p_not rfl rfl (o_keep (.c 0 rfl (.c 4 rfl (.c 5 rfl (.c 20 rfl .n)))) (r_cond _ rfl (fun h2=>?_) (fun h2=>?_))))))))
  ·simp at h2
  ·skip
   refine r_skip (r_seq (r_sr (p_fa fa_139_0 rfl rfl (p_ldc tc_3 rfl (by rfl) rfl ?_))))
   refine p_eql rfl rfl rfl (p_mv rfl rfl (l_op (x_p (pv_fa fa_139_0 (.s rfl rfl rfl) rfl rfl gA) rfl rfl (l_op (x_r (q_ldc tc_3 (.s rfl rfl rfl) rfl rfl gA (by rfl)) rfl rfl ?_)))))
   refine l_op (x_p (pv_eql (.s rfl rfl rfl) rfl rfl rfl gB) rfl rfl ?_)
   refine l_op (x_p (pv_or (.n rfl) rfl rfl rfl (fun _=>⟨rfl,fun hc=>by first|rfl|(rw[hc];rfl)|simp_all⟩)) rfl rfl ?_)
   refine o_keep (kp [0,4,5,28] rfl) (r_cond _ rfl (fun h3=>?_) (fun h3=>?_))
   ·skip
    have hk:m.kind=2∨m.kind=4:=by simpa using h3
    have hs:=deliverT_b hm hk
    refine r_seq ?_
    refine r_plan (_) ([brokP bb t.b]) mo (kp [0,4,5] rfl) (SelX.ent) ?_
    refine yp 0 [.k 0] rfl rfl (by kernel_rfl) (u_mv rfl rfl rfl) (yp 1 [.o 0] rfl rfl (by kernel_rfl) (u_nil rfl rfl rfl) (yp 2 [.o 1] rfl rfl (by kernel_rfl) (u_fa fa_62_0 rfl rfl rfl) (yr 3 [.o 2] rfl rfl (by kernel_rfl) (fun He=>u_ldc tc_55 rfl rfl rfl (by rfl)) ?_)))
    refine yr 4 [.k 5] rfl rfl (by kernel_rfl) (fun He=>q_lda ta_139 (.n rfl) rfl rfl fR (Tk.all rfl)) ?_
    refine qb_callc (i:=5) [.o 3,.o 4] (by kernel_rfl) (by kernel_rfl) rfl rfl rfl rfl (by kernel_rfl) (by kernel_rfl) (by kernel_rfl) ⟨_,.n rfl,rfl⟩ cf_140 rfl (.c rfl (.c rfl .n)) (broker_Hear _ bb t.b hI.b m) ?_
    refine qm_n (by kernel_rfl) (by kernel_rfl) (by kernel_rfl) (by kernel_rfl) (kp [0,4,5] rfl) ?_
    refine r_sr (p_as rfl rfl (o_keep (kp [0,4,5] rfl) ?_))
    refine r_retv hF rfl (.c (.t rfl) .n) ?_ ?_
    ·refine Ent.catI ?_;rw[hs];refine Ent.c (townP_close (t:={t with post:=takeL t.post n,b:=hearB t.b m}) bb c0 c1 c2 pb rfl) ?_;apply eI;repeat constructor
    ·rw[hs];rfl
   ·skip
    have hk:¬ (m.kind=2∨m.kind=4):=by simpa using h3
    refine r_skip (r_seq (r_seq ?_))
    have hsh:(m.shop<0∨3≤m.shop)∨∃ i:Nat,m.shop=(i:Int)∧i<3:=by by_cases h:m.shop<0∨3≤m.shop;exact .inl h;exact .inr ⟨m.shop.toNat,by omega,by omega⟩
    rcases hsh with hsh|⟨i,hsi,hi3⟩
    ·skip
     have hs:=deliverT_o hlen3 hm hk hsh
     refine r_region (p_mv rfl rfl (p_fa fa_139_2 rfl rfl (p_ldc tc_3 rfl (by rfl) rfl ?_)))
     refine p_callv cf_100 (.c rfl (.c rfl .n)) rfl ((town_Clerk_n _ b bb t.ws c0 c1 c2 pb m.shop hsh).q) ?_
     refine p_as rfl rfl (o_keep (kp [0,4,5,7] rfl) (r_sr (p_mv rfl rfl (l_op (x_p (pv_pnen Tryz.underlying59 (.n rfl) rfl rfl rfl fS) rfl rfl (o_keep (kp [0,4,5,7,40] rfl) (r_cond _ rfl (fun h4=>?_) (fun h4=>?_))))))))
     ·simp at h4
     ·skip
      refine r_skip (r_sr (p_as rfl rfl (o_keep (kp [4] rfl) ?_)))
      refine r_retv hF rfl (.c (.t rfl) .n) ?_ ?_
      ·refine Ent.catI ?_;rw[hs];refine Ent.c (townP_close (t:={t with post:=takeL t.post n}) bb c0 c1 c2 pb rfl) ?_;apply eI;repeat constructor
      ·rw[hs];rfl
    ·skip
     obtain⟨k,hk3⟩:=getlt (l:=t.ks) (i:=i) (by omega)
     obtain⟨hK,hkn,hkw⟩:=hI.k i k hk3
     have hs:=deliverT_c hm hk hsi hk3
     refine r_region (p_mv rfl rfl (p_fa fa_139_2 rfl rfl (p_ldc tc_3 rfl (by rfl) rfl ?_)))
     refine p_callv cf_100 (.c rfl (.c rfl .n)) rfl ((town_Clerk_s _ b bb t.ws c0 c1 c2 pb m.shop i hsi hi3).q) ?_
     refine p_as rfl rfl (o_keep (kp [0,4,5,7] rfl) (r_sr (p_mv rfl rfl (l_op (x_p (pv_pnen Tryz.underlying59 (.n rfl) rfl rfl rfl fS) rfl rfl (o_keep (kp [0,4,5,7,40] rfl) (r_cond _ rfl (fun h5=>?_) (fun h5=>?_))))))))
     ·skip
      refine r_seq ?_
      refine r_many (P:=clerkP) (bs:=[c0,c1,c2]) i (cAt_get hi3) hk3 ?_
      refine r_region (p_mv rfl rfl ?_)
      refine p_lda ta_139 rfl (Tk.all rfl) rfl ?_
      refine p_callc cf_141 (.c rfl (.c rfl .n)) rfl (clerk_Answer _ (cAt c0 c1 c2 i) k hK m) ?_
      refine p_mv rfl rfl (p_ext rfl rfl rfl (p_ext rfl rfl rfl (p_alloc zr_139 rfl fun b8=>?_)))
      refine p_store (.ofA ta_139) rfl rfl rfl (by first|rfl|exact rfl) (by first|rfl|exact rfl) (Ins.whole (by first|rfl|(simp only[List.length_map,List.length_cons,List.length_nil];omega)|(simp[*];done)|(simp[*];rfl))) ?_
      refine p_as rfl rfl (o_keep (.c 0 rfl (.c 4 rfl (.c 8 rfl (.c 9 rfl .n)))) (r_sr (p_mv rfl rfl (o_keep (.c 0 rfl (.c 4 rfl (.c 8 rfl (.c 47 rfl .n)))) (r_cond _ rfl (fun h6=>?_) (fun h6=>?_))))))
      ·skip
       obtain⟨a,ha⟩:=Option.isSome_iff_exists.1 h6
       rw[ha] at hs
       rw[ha]
       refine r_plan (_) ([postP pb (takeL t.post n)]) mo (kp [0,4,8] rfl) (SelX.ent) ?_
       refine yp 0 [.k 0] rfl rfl (by kernel_rfl) (u_mv rfl rfl rfl) (yp 1 [.o 0] rfl rfl (by kernel_rfl) (u_nil rfl rfl rfl) (yp 2 [.o 1] rfl rfl (by kernel_rfl) (u_fa fa_62_3 rfl rfl rfl) (yr 3 [.o 2] rfl rfl (by kernel_rfl) (fun He=>u_ldc tc_57 rfl rfl rfl (by rfl)) ?_)))
       refine yr 4 [.k 8] rfl rfl (by kernel_rfl) (fun He=>q_lda ta_139 (.n rfl) rfl rfl fR (Tk.all rfl)) ?_
       refine qb_callc (i:=5) [.o 3,.o 4] (by kernel_rfl) (by kernel_rfl) rfl rfl rfl rfl (by kernel_rfl) (by kernel_rfl) (by kernel_rfl) ⟨_,.n rfl,rfl⟩ cf_135 rfl (.c rfl (.c rfl .n)) (post_Send _ pb (takeL t.post n) (by omega) a) ?_
       refine qm_n (by kernel_rfl) (by kernel_rfl) (by kernel_rfl) (by kernel_rfl) (kp [4] rfl) ?_
       refine r_sr (p_as rfl rfl (o_keep (kp [4] rfl) ?_))
       refine r_retv hF rfl (.c (.t rfl) .n) ?_ ?_
       ·refine Ent.catI ?_;rw[hs];refine Ent.tr (SelX.ent (X:=clerkP (cAt c0 c1 c2 i) (ansK k m).1)) ?_;refine Ent.tr (Ent.mono (SelX.ent (X:=restP clerkP [c0,c1,c2] t.ks i))) ?_;refine Ent.tr (many_in (cAt_get hi3) hk3) ?_;refine Ent.c (townP_close (t:={t with ks:=t.ks.set i (ansK k m).1,post:=sendL (takeL t.post n) a}) bb c0 c1 c2 pb rfl) ?_;apply eI;repeat constructor
       ·rw[hs];rfl
      ·skip
       have ha:(ansK k m).2=none:=by simpa using h6
       rw[ha] at hs
       refine r_skip (r_sr (p_as rfl rfl (o_keep (kp [4] rfl) ?_)))
       refine r_retv hF rfl (.c (.t rfl) .n) ?_ ?_
       ·refine Ent.catI ?_;rw[hs];refine Ent.tr (SelX.ent (X:=clerkP (cAt c0 c1 c2 i) (ansK k m).1)) ?_;refine Ent.tr (Ent.mono (SelX.ent (X:=restP clerkP [c0,c1,c2] t.ks i))) ?_;refine Ent.tr (many_in (cAt_get hi3) hk3) ?_;refine Ent.c (townP_close (t:={t with ks:=t.ks.set i (ansK k m).1,post:=takeL t.post n}) bb c0 c1 c2 pb rfl) ?_;apply eI;repeat constructor
       ·rw[hs];rfl
     ·simp at h5
theorem town_mail (M:Amb)(b:Nat)(t:TownS)(hI:TInv t)(x:TStep)(hk:x.kind=3∨x.kind=4∨x.kind=5):FnC Tryz.prog M 98 [ptr b,.agg (rTS x).toArray] (.int .i64 (stepT t x.s).2) [townP b t] [townP b (stepT t x.s).1]:=by
 have hfull:=hI.full
 have hlen3:=hI.len
 have hw6:=hI.ws6
 obtain⟨xk,xn,xv,xw⟩:=x
 dsimp only at hk
 try simp only[rTS]
 try dsimp only
 refine fnc_intro Tryz.func98 rfl Tryz.ntmps98 rfl fun R F hF=>?_
 refine r_cat ?_
 refine r_sr (p_box rfl rfl rfl fun b3=>?_)
 refine p_as rfl rfl (o_keep (kp [0,3,4] rfl) (r_seq (r_sr (p_fa fa_91_0 rfl rfl (p_ldc tc_3 rfl (by rfl) rfl ?_)))))
 refine o_keep (kp [0,3,4,8] rfl) (r_block (r_sr (p_eql rfl rfl rfl (p_as rfl rfl (o_keep (kp [0,3,4,8,9] rfl) (r_cond _ rfl (fun h1=>?_) (fun h1=>?_)))))))
 ·skip
  have h3:xk=3:=of_decide_eq_true h1
  have hs:=stepT_3 (t:=t) (x:=⟨xk,xn,xw⟩) h3
  refine r_sr (p_mv rfl rfl (p_fa fa_91_1 rfl rfl (p_ldc tc_3 rfl (by rfl) rfl ?_)))
  refine p_callc cf_104 (.c rfl (.c rfl .n)) rfl (town_deliver _ b t hI xn) ?_
  refine p_as rfl rfl (o_keep (kp [4] rfl) ?_)
  refine r_retv hF rfl (.c (.t rfl) .n) ?_ ?_
  ·refine Ent.catI ?_;rw[hs];refine Ent.c (SelX.ent) ?_;apply eI;repeat constructor
  ·rw[hs];rfl
 ·skip
  have h3:¬ xk=3:=of_decide_eq_false h1
  refine r_sr (p_eql rfl rfl rfl (p_as rfl rfl (o_keep (kp [0,3,4,8,15] rfl) (r_cond _ rfl (fun h2=>?_) (fun h2=>?_)))))
  ·skip
   have h4:xk=4:=of_decide_eq_true h2
   have hs:=stepT_4 (t:=t) (x:=⟨xk,xn,xw⟩) h4
   dsimp only at hs
   refine r_seq ?_
   rcases hm:takeM t.post xn with _|m
   ·skip
    refine r_sel (townP b t) ?_
    refine r_town fun bb c0 c1 c2 pb=>?_
    refine r_cat ?_
    refine r_plan (_) ([postP pb t.post]) mo (kp [0,3,4] rfl) (SelX.ent) ?_
    refine yp 0 [.k 0] rfl rfl (by kernel_rfl) (u_mv rfl rfl rfl) (yp 1 [.o 0] rfl rfl (by kernel_rfl) (u_nil rfl rfl rfl) (yp 2 [.o 1] rfl rfl (by kernel_rfl) (u_fa fa_62_3 rfl rfl rfl) (yr 3 [.o 2] rfl rfl (by kernel_rfl) (fun He=>u_ldc tc_57 rfl rfl rfl (by rfl)) ?_)))
    refine yp 4 [.k 3] rfl rfl (by kernel_rfl) (u_fa fa_91_1 rfl rfl rfl) (yr 5 [.o 4] rfl rfl (by kernel_rfl) (fun He=>u_ldc tc_3 rfl rfl rfl (by rfl)) ?_)
    refine qm_two (i:=6) (j:=10) (by kernel_rfl) (by kernel_rfl) (by kernel_rfl) ?_ ?_
    ·skip
     refine cand_callc [.o 3,.o 5] rfl rfl rfl rfl rfl rfl cf_136 rfl (.c rfl (.c rfl .n)) (post_Take_n _ pb t.post (by omega) xn hm) ?_
     refine yp 7 [.o 6] rfl rfl (by kernel_rfl) (u_mv rfl rfl rfl) (yp 8 [.o 7] rfl rfl (by kernel_rfl) (u_ext rfl rfl rfl rfl) (yp 9 [.o 7] rfl rfl (by kernel_rfl) (u_ext rfl rfl rfl rfl) ?_))
     refine qm_alloc zr_139 (i:=10) [] (by kernel_rfl) (by kernel_rfl) rfl rfl rfl rfl (by kernel_rfl) (by kernel_rfl) ⟨_,.n rfl,rfl⟩ rfl fun b5=>?_
     refine qm_store (.ofA ta_139) (i:=11) [.o 10,.o 8] (by kernel_rfl) (by kernel_rfl) rfl rfl rfl (by kernel_rfl) (by kernel_rfl) ⟨_,.n rfl,rfl⟩ rfl rfl rfl rfl rfl rfl (by repeat constructor) ?_
     refine yp 12 [.o 9] rfl rfl (by kernel_rfl) (u_as rfl rfl rfl) ?_
     refine qm_n (by kernel_rfl) (by kernel_rfl) (by kernel_rfl) (by kernel_rfl) (kp [4,6] rfl) ?_
     refine r_sr (p_mv rfl rfl (p_not rfl rfl (o_keep (kp [4,28] rfl) (r_cond _ rfl (fun h3=>?_) (fun h3=>?_)))))
     ·skip
      rw[hm] at hs
      simp only[Option.isSome_none,Bool.false_eq_true,if_false] at hs
      refine r_sr (p_as rfl rfl (o_keep (kp [4] rfl) ?_))
      refine r_retv hF rfl (.c (.t rfl) .n) ?_ ?_
      ·refine Ent.catI ?_;rw[hs];refine Ent.c (townP_close (t:=t) bb c0 c1 c2 pb rfl) ?_;apply eI;repeat constructor
      ·rw[hs];rfl
     ·simp at h3
    ·skip
     refine cand_alloc zr_139 rfl rfl rfl rfl rfl rfl fun b5=>?_
     refine qm_callc (i:=6) [.o 3,.o 5] (by kernel_rfl) (by kernel_rfl) rfl rfl rfl rfl (by kernel_rfl) (by kernel_rfl) ⟨_,.n rfl,rfl⟩ cf_136 rfl (.c rfl (.c rfl .n)) (post_Take_n _ pb t.post (by omega) xn hm) ?_
     refine yp 7 [.o 6] rfl rfl (by kernel_rfl) (u_mv rfl rfl rfl) (yp 8 [.o 7] rfl rfl (by kernel_rfl) (u_ext rfl rfl rfl rfl) (yp 9 [.o 7] rfl rfl (by kernel_rfl) (u_ext rfl rfl rfl rfl) ?_))
     refine qm_store (.ofA ta_139) (i:=11) [.o 10,.o 8] (by kernel_rfl) (by kernel_rfl) rfl rfl rfl (by kernel_rfl) (by kernel_rfl) ⟨_,.n rfl,rfl⟩ rfl rfl rfl rfl rfl rfl (by repeat constructor) ?_
     refine yp 12 [.o 9] rfl rfl (by kernel_rfl) (u_as rfl rfl rfl) ?_
     refine qm_n (by kernel_rfl) (by kernel_rfl) (by kernel_rfl) (by kernel_rfl) (kp [4,6] rfl) ?_
     refine r_sr (p_mv rfl rfl (p_not rfl rfl (o_keep (kp [4,28] rfl) (r_cond _ rfl (fun h4=>?_) (fun h4=>?_)))))
     ·skip
      rw[hm] at hs
      simp only[Option.isSome_none,Bool.false_eq_true,if_false] at hs
      refine r_sr (p_as rfl rfl (o_keep (kp [4] rfl) ?_))
      refine r_retv hF rfl (.c (.t rfl) .n) ?_ ?_
      ·refine Ent.catI ?_;rw[hs];refine Ent.c (townP_close (t:=t) bb c0 c1 c2 pb rfl) ?_;apply eI;repeat constructor
      ·rw[hs];rfl
     ·simp at h4
   ·skip
    refine r_sel (townP b t) ?_
    refine r_town fun bb c0 c1 c2 pb=>?_
    refine r_cat ?_
    refine r_plan (_) ([postP pb t.post]) mo (kp [0,3,4] rfl) (SelX.ent) ?_
    refine yp 0 [.k 0] rfl rfl (by kernel_rfl) (u_mv rfl rfl rfl) (yp 1 [.o 0] rfl rfl (by kernel_rfl) (u_nil rfl rfl rfl) (yp 2 [.o 1] rfl rfl (by kernel_rfl) (u_fa fa_62_3 rfl rfl rfl) (yr 3 [.o 2] rfl rfl (by kernel_rfl) (fun He=>u_ldc tc_57 rfl rfl rfl (by rfl)) ?_)))
    refine yp 4 [.k 3] rfl rfl (by kernel_rfl) (u_fa fa_91_1 rfl rfl rfl) (yr 5 [.o 4] rfl rfl (by kernel_rfl) (fun He=>u_ldc tc_3 rfl rfl rfl (by rfl)) ?_)
    refine qm_two (i:=6) (j:=10) (by kernel_rfl) (by kernel_rfl) (by kernel_rfl) ?_ ?_
    ·skip
     refine cand_callc [.o 3,.o 5] rfl rfl rfl rfl rfl rfl cf_136 rfl (.c rfl (.c rfl .n)) (post_Take_s _ pb t.post (by omega) xn m hm) ?_
     refine yp 7 [.o 6] rfl rfl (by kernel_rfl) (u_mv rfl rfl rfl) (yp 8 [.o 7] rfl rfl (by kernel_rfl) (u_ext rfl rfl rfl rfl) (yp 9 [.o 7] rfl rfl (by kernel_rfl) (u_ext rfl rfl rfl rfl) ?_))
     refine qm_alloc zr_139 (i:=10) [] (by kernel_rfl) (by kernel_rfl) rfl rfl rfl rfl (by kernel_rfl) (by kernel_rfl) ⟨_,.n rfl,rfl⟩ rfl fun b5=>?_
     refine qm_store (.ofA ta_139) (i:=11) [.o 10,.o 8] (by kernel_rfl) (by kernel_rfl) rfl rfl rfl (by kernel_rfl) (by kernel_rfl) ⟨_,.n rfl,rfl⟩ rfl rfl rfl rfl rfl rfl (by repeat constructor) ?_
     refine yp 12 [.o 9] rfl rfl (by kernel_rfl) (u_as rfl rfl rfl) ?_
     refine qm_n (by kernel_rfl) (by kernel_rfl) (by kernel_rfl) (by kernel_rfl) (kp [4,6] rfl) ?_
     refine r_sr (p_mv rfl rfl (p_not rfl rfl (o_keep (kp [4,28] rfl) (r_cond _ rfl (fun h5=>?_) (fun h5=>?_)))))
     ·simp at h5
     ·skip
      rw[hm] at hs
      simp only[Option.isSome_some,if_true] at hs
      refine r_skip (r_end (r_sr (p_as rfl rfl (o_keep (kp [4] rfl) ?_))))
      refine r_retv hF rfl (.c (.t rfl) .n) ?_ ?_
      ·refine Ent.catI ?_;rw[hs];refine Ent.c (townP_close (t:={t with post:=takeL t.post xn}) bb c0 c1 c2 pb rfl) ?_;apply eI;repeat constructor
      ·rw[hs];rfl
    ·skip
     refine cand_alloc zr_139 rfl rfl rfl rfl rfl rfl fun b5=>?_
     refine qm_callc (i:=6) [.o 3,.o 5] (by kernel_rfl) (by kernel_rfl) rfl rfl rfl rfl (by kernel_rfl) (by kernel_rfl) ⟨_,.n rfl,rfl⟩ cf_136 rfl (.c rfl (.c rfl .n)) (post_Take_s _ pb t.post (by omega) xn m hm) ?_
     refine yp 7 [.o 6] rfl rfl (by kernel_rfl) (u_mv rfl rfl rfl) (yp 8 [.o 7] rfl rfl (by kernel_rfl) (u_ext rfl rfl rfl rfl) (yp 9 [.o 7] rfl rfl (by kernel_rfl) (u_ext rfl rfl rfl rfl) ?_))
     refine qm_store (.ofA ta_139) (i:=11) [.o 10,.o 8] (by kernel_rfl) (by kernel_rfl) rfl rfl rfl (by kernel_rfl) (by kernel_rfl) ⟨_,.n rfl,rfl⟩ rfl rfl rfl rfl rfl rfl (by repeat constructor) ?_
     refine yp 12 [.o 9] rfl rfl (by kernel_rfl) (u_as rfl rfl rfl) ?_
     refine qm_n (by kernel_rfl) (by kernel_rfl) (by kernel_rfl) (by kernel_rfl) (kp [4,6] rfl) ?_
     refine r_sr (p_mv rfl rfl (p_not rfl rfl (o_keep (kp [4,28] rfl) (r_cond _ rfl (fun h6=>?_) (fun h6=>?_)))))
     ·simp at h6
     ·skip
      rw[hm] at hs
      simp only[Option.isSome_some,if_true] at hs
      refine r_skip (r_end (r_sr (p_as rfl rfl (o_keep (kp [4] rfl) ?_))))
      refine r_retv hF rfl (.c (.t rfl) .n) ?_ ?_
      ·refine Ent.catI ?_;rw[hs];refine Ent.c (townP_close (t:={t with post:=takeL t.post xn}) bb c0 c1 c2 pb rfl) ?_;apply eI;repeat constructor
      ·rw[hs];rfl
  ·skip
   have h4:¬ xk=4:=of_decide_eq_false h2
   refine r_sr (p_eql rfl rfl rfl (p_as rfl rfl (o_keep (kp [0,3,4,29] rfl) (r_cond _ rfl (fun h7=>?_) (fun h7=>?_)))))
   ·skip
    have h5:xk=5:=of_decide_eq_true h7
    have hs:=stepT_5 (t:=t) (x:=⟨xk,xn,xw⟩) h5
    dsimp only at hs
    refine r_seq (r_seq ?_)
    refine r_sel (townP b t) ?_
    refine r_town fun bb c0 c1 c2 pb=>?_
    refine r_cat ?_
    refine r_region (p_mv rfl rfl (p_nil rfl rfl (p_fa fa_62_3 rfl rfl (p_ldc tc_57 rfl (by rfl) rfl ?_))))
    refine p_callv cf_103 (.c rfl .n) rfl ((post_Len _ pb t.post).q) ?_
    refine p_eql rfl rfl rfl (o_keep (kp [0,3,4,36] rfl) (r_cond _ rfl (fun h8=>?_) (fun h8=>?_)))
    ·skip
     have h0:t.post.length=0:=by have:=of_decide_eq_true h8;omega
     rw[if_pos h0] at hs
     refine r_sr (p_as rfl rfl (o_keep (kp [0,3,4] rfl) ?_))
     refine r_retv hF rfl (.c (.t rfl) .n) ?_ ?_
     ·refine Ent.catI ?_;rw[hs];refine Ent.c (townP_close (t:=t) bb c0 c1 c2 pb rfl) ?_;apply eI;repeat constructor
     ·rw[hs];rfl
    ·skip
     have h0:¬ t.post.length=0:=by have:=of_decide_eq_false h8;omega
     rw[if_neg h0] at hs
     refine r_skip (r_seq ?_)
     refine r_plan (_) ([postP pb t.post]) mo (kp [0,3,4] rfl) (SelX.ent) ?_
     refine yp 0 [.k 0] rfl rfl (by kernel_rfl) (u_mv rfl rfl rfl) (yp 1 [.o 0] rfl rfl (by kernel_rfl) (u_nil rfl rfl rfl) (yp 2 [.o 1] rfl rfl (by kernel_rfl) (u_fa fa_62_3 rfl rfl rfl) (yr 3 [.o 2] rfl rfl (by kernel_rfl) (fun He=>u_ldc tc_57 rfl rfl rfl (by rfl)) ?_)))
     refine yp 4 [.k 3] rfl rfl (by kernel_rfl) (u_fa fa_91_1 rfl rfl rfl) (yr 5 [.o 4] rfl rfl (by kernel_rfl) (fun He=>u_ldc tc_3 rfl rfl rfl (by rfl)) ?_)
     refine qb_callc (i:=6) [.o 3,.o 5] (by kernel_rfl) (by kernel_rfl) rfl rfl rfl rfl (by kernel_rfl) (by kernel_rfl) (by kernel_rfl) ⟨_,.n rfl,rfl⟩ cf_137 rfl (.c rfl (.c rfl .n)) (post_Double _ pb t.post (by omega) xn) ?_
     refine yp 7 [.o 6] rfl rfl (by kernel_rfl) (pv_not (.n rfl) rfl rfl fR) ?_
     refine qm_n (by kernel_rfl) (by kernel_rfl) (by kernel_rfl) (by kernel_rfl) (kp [4,44] rfl) ?_
     refine r_cond _ rfl (fun h9=>?_) (fun h9=>?_)
     ·skip
      have hd:dblOk t.post=false:=by simpa using h9
      rw[if_neg (by rw[hd];simp)] at hs
      rw[dbl_no hd hfull]
      refine r_sr (p_as rfl rfl (o_keep (kp [4] rfl) ?_))
      refine r_retv hF rfl (.c (.t rfl) .n) ?_ ?_
      ·refine Ent.catI ?_;rw[hs];refine Ent.c (townP_close (t:=t) bb c0 c1 c2 pb rfl) ?_;apply eI;repeat constructor
      ·rw[hs];rfl
     ·skip
      have hd:dblOk t.post=true:=by simpa using h9
      rw[if_pos hd] at hs
      refine r_skip (r_end (r_sr (p_as rfl rfl (o_keep (kp [4] rfl) ?_))))
      refine r_retv hF rfl (.c (.t rfl) .n) ?_ ?_
      ·refine Ent.catI ?_;rw[hs];refine Ent.c (townP_close (t:={t with post:=dblL t.post xn}) bb c0 c1 c2 pb rfl) ?_;apply eI;repeat constructor
      ·rw[hs];rfl
   ·exfalso;have h5:¬ xk=5:=of_decide_eq_false h7;omega
theorem town_Step (M:Amb)(R:List HP)(b:Nat)(t:TownS)(hT:TInv t)(x:TStep)(hv:Rd M R x.wv 2 (x.wants.map rW))(hb:x.wants.length≤100000):FnR Tryz.prog M (townP b t::R) 57 [ptr b,.agg (rTS x).toArray] (fun u H'=>u=.int .i64 (stepT t x.s).2∧H'=townP b (stepT t x.s).1::R):=by
 have hfull:=hT.full
 have hlen3:=hT.len
 have hw6:=hT.ws6
 have hol:=hT.b.ord_le
 obtain⟨xk,xn,xv,xw⟩:=x
 dsimp only at hv hb
 refine fn_intro Tryz.func57 rfl Tryz.ntmps57 rfl fun F hF=>?_
 refine r_sr (p_box rfl rfl rfl fun b3=>?_)
 refine p_as rfl rfl (o_keep (kp [0,3,4] rfl) (r_seq (r_sr (p_fa fa_91_0 rfl rfl (p_ldc tc_3 rfl (by rfl) rfl ?_)))))
 refine o_keep (kp [0,3,4,9] rfl) (r_block (r_sr (p_eql rfl rfl rfl (p_as rfl rfl (o_keep (kp [0,3,4,9,10] rfl) (r_cond _ rfl (fun h1=>?_) (fun h1=>?_)))))))
 ·skip
  have q1:xk=1:=of_decide_eq_true h1
  have hs:=stepT_1 (t:=t) (x:=⟨xk,xn,xw⟩) q1
  refine r_seq ?_
  refine r_sel (townP b t) ?_
  refine r_town fun bb c0 c1 c2 pb=>?_
  refine r_cat ?_
  refine r_plan (_) ([brokP bb t.b]) mo (kp [0,3,4] rfl) (SelX.ent) ?_
  refine yp 0 [.k 0] rfl rfl (by kernel_rfl) (u_mv rfl rfl rfl) (yp 1 [.o 0] rfl rfl (by kernel_rfl) (u_nil rfl rfl rfl) (yp 2 [.o 1] rfl rfl (by kernel_rfl) (u_fa fa_62_0 rfl rfl rfl) (yr 3 [.o 2] rfl rfl (by kernel_rfl) (fun He=>u_ldc tc_55 rfl rfl rfl (by rfl)) ?_)))
  refine yp 4 [.k 3] rfl rfl (by kernel_rfl) (u_fa fa_91_2 rfl rfl rfl) (yr 5 [.o 4] rfl rfl (by kernel_rfl) (fun He=>u_ldc tc_89 rfl rfl rfl (by rfl)) ?_)
  refine qm_call (i:=6) [.o 3,.o 5] (by kernel_rfl) (by kernel_rfl) rfl rfl rfl rfl (by kernel_rfl) (by kernel_rfl) ⟨_,.n rfl,rfl⟩ cf_96 rfl (.c rfl (.c rfl .n)) (broker_Begin _ bb t.b hT.b _ xv xw (Rd.ent hv (by repeat (first|exact Ent.rfl|refine Ent.dropR ?_))) hb) ?_
  rintro _ _ ⟨rfl,rfl⟩
  refine⟨[brokP bb (beginB t.b xw).1],rfl,?_⟩
  refine yp 7 [.o 6] rfl rfl (by kernel_rfl) (u_mv rfl rfl rfl) (yp 8 [.o 7] rfl rfl (by kernel_rfl) (u_ext rfl rfl rfl rfl) (yp 9 [.o 7] rfl rfl (by kernel_rfl) (u_ext rfl rfl rfl rfl) (yp 10 [.o 8] rfl rfl (by kernel_rfl) (u_as rfl rfl rfl) (yp 11 [.o 9] rfl rfl (by kernel_rfl) (u_as rfl rfl rfl) ?_))))
  refine qm_n (by kernel_rfl) (by kernel_rfl) (by kernel_rfl) (by kernel_rfl) (kp [4,6] rfl) ?_
  refine r_sr (p_mv rfl rfl (p_as rfl rfl (o_keep (kp [4] rfl) ?_)))
  refine r_retv hF rfl (.c (.t rfl) .n) ?_ ?_
  ·rw[hs];refine Ent.c (townP_close (t:={t with b:=(beginB t.b xw).1}) bb c0 c1 c2 pb rfl) ?_;apply eI;repeat constructor
  ·rw[hs];rfl
 ·skip
  have q1:¬ xk=1:=of_decide_eq_false h1
  refine r_sr (p_eql rfl rfl rfl (p_as rfl rfl (o_keep (kp [0,3,4,9,23] rfl) (r_cond _ rfl (fun h2=>?_) (fun h2=>?_)))))
  ·skip
   have q2:xk=2:=of_decide_eq_true h2
   have hs:=stepT_2 (t:=t) (x:=⟨xk,xn,xw⟩) q2
   refine r_region (p_mv rfl rfl ?_)
   refine p_callc cf_97 (.c rfl .n) rfl (town_tick _ b t hT) ?_
   refine o_keep (kp [4] rfl) (r_end (r_sr (p_as rfl rfl (o_keep (kp [4] rfl) ?_))))
   refine r_retv hF rfl (.c (.t rfl) .n) ?_ ?_
   ·rw[hs];refine Ent.c (SelX.ent) ?_;apply eI;repeat constructor
   ·rw[hs];rfl
  ·skip
   have q2:¬ xk=2:=of_decide_eq_false h2
   refine r_seq (r_sr (p_eql rfl rfl rfl (p_as rfl rfl (o_keep (kp [0,3,4,9,27] rfl) ?_))))
   refine r_cut_1 (fun (c:Bool)=>[(27,true,.bool c)]) (kp [0,3,4,9] rfl) (fun (c:Bool)=>blk b3 (rTS ⟨xk,xn,xv,xw⟩) 91::townP b t::R) (fun (c:Bool)=>c=decide (xk=3∨xk=4∨xk=5)) ?_ (fun c hI=>?_)
   ·skip
    refine r_cond _ rfl (fun h3=>?_) (fun h3=>?_)
    ·skip
     have q3:xk=3:=of_decide_eq_true h3
     refine r_skip ?_
     refine r_join_1 (_) ?_ (Keep.app (kp [27] rfl) (kp [0,3,4,9] rfl)) ?_
     ·simp[q3]
     ·apply eI;repeat constructor
    ·skip
     have q3:¬ xk=3:=of_decide_eq_false h3
     refine r_sr (p_eql rfl rfl rfl (p_as rfl rfl (o_keep (kp [0,3,4,9,27] rfl) (r_cond _ rfl (fun h4=>?_) (fun h4=>?_)))))
     ·skip
      have q4:xk=4:=of_decide_eq_true h4
      refine r_skip ?_
      refine r_join_1 (_) ?_ (Keep.app (kp [27] rfl) (kp [0,3,4,9] rfl)) ?_
      ·simp[q4]
      ·apply eI;repeat constructor
     ·skip
      have q4:¬ xk=4:=of_decide_eq_false h4
      refine r_region (p_eql rfl rfl rfl (p_as rfl rfl (o_keep (kp [0,3,4,9,27] rfl) ?_)))
      refine r_join_1 (_) ?_ (Keep.app (kp [27] rfl) (kp [0,3,4,9] rfl)) ?_
      ·simp[q3,q4]
      ·apply eI;repeat constructor
   have hc5:=hI
   refine r_cond _ rfl (fun h5=>?_) (fun h5=>?_)
   ·skip
    have hk345:xk=3∨xk=4∨xk=5:=by rw[h5] at hc5;exact of_decide_eq_true hc5.symm
    refine r_sr (p_mv rfl rfl ?_)
    refine p_lda ta_91 rfl (by exact (.s (.s (.s .z)))) rfl ?_
    refine p_callc cf_98 (.c rfl (.c rfl .n)) rfl (town_mail _ b t hT ⟨xk,xn,xv,xw⟩ hk345) ?_
    refine p_as rfl rfl (o_keep (kp [4] rfl) ?_)
    refine r_retv hF rfl (.c (.t rfl) .n) ?_ ?_
    ·refine Ent.c (SelX.ent) ?_;apply eI;repeat constructor
    ·rfl
   ·skip
    have hk345:¬ (xk=3∨xk=4∨xk=5):=by rw[h5] at hc5;exact of_decide_eq_false hc5.symm
    refine r_sr (p_eql rfl rfl rfl (p_as rfl rfl (o_keep (kp [0,3,4,9,34] rfl) (r_cond _ rfl (fun h6=>?_) (fun h6=>?_)))))
    ·skip
     have q6:xk=6:=of_decide_eq_true h6
     have hs:=stepT_6 (t:=t) (x:=⟨xk,xn,xw⟩) q6
     refine r_seq ?_
     refine r_sel (townP b t) ?_
     refine r_town fun bb c0 c1 c2 pb=>?_
     refine r_cat ?_
     refine r_plan (_) ([brokP bb t.b]) mo (kp [0,3] rfl) (SelX.ent) ?_
     refine yp 0 [.k 0] rfl rfl (by kernel_rfl) (u_mv rfl rfl rfl) (yp 1 [.o 0] rfl rfl (by kernel_rfl) (u_nil rfl rfl rfl) (yp 2 [.o 1] rfl rfl (by kernel_rfl) (u_fa fa_62_0 rfl rfl rfl) (yr 3 [.o 2] rfl rfl (by kernel_rfl) (fun He=>u_ldc tc_55 rfl rfl rfl (by rfl)) ?_)))
     refine yp 4 [.k 3] rfl rfl (by kernel_rfl) (u_fa fa_91_1 rfl rfl rfl) (yr 5 [.o 4] rfl rfl (by kernel_rfl) (fun He=>u_ldc tc_3 rfl rfl rfl (by rfl)) ?_)
     refine qb_callc (i:=6) [.o 3,.o 5] (by kernel_rfl) (by kernel_rfl) rfl rfl rfl rfl (by kernel_rfl) (by kernel_rfl) (by kernel_rfl) ⟨_,.n rfl,rfl⟩ cf_99 rfl (.c rfl (.c rfl .n)) (broker_Quit _ bb t.b hT.b xn (by omega)) ?_
     refine yp 7 [.o 6] rfl rfl (by kernel_rfl) (u_as rfl rfl rfl) ?_
     refine qm_n (by kernel_rfl) (by kernel_rfl) (by kernel_rfl) (by kernel_rfl) (kp [4] rfl) ?_
     refine r_retv hF rfl (.c (.t rfl) .n) ?_ ?_
     ·rw[hs];refine Ent.c (townP_close (t:={t with b:=(quitB t.b xn).1}) bb c0 c1 c2 pb rfl) ?_;apply eI;repeat constructor
     ·rw[hs];rfl
    ·skip
     have q6:¬ xk=6:=of_decide_eq_false h6
     refine r_sr (p_eql rfl rfl rfl (p_as rfl rfl (o_keep (kp [0,3,4,9,43] rfl) (r_cond _ rfl (fun h7=>?_) (fun h7=>?_)))))
     ·skip
      have q7:xk=7:=of_decide_eq_true h7
      have hs:=stepT_7 (t:=t) (x:=⟨xk,xn,xw⟩) q7
      dsimp only at hs
      refine r_seq ?_
      have hsh:(xn<0∨3≤xn)∨∃ i:Nat,xn=(i:Int)∧i<3:=by by_cases h:xn<0∨3≤xn;exact .inl h;exact .inr ⟨xn.toNat,by omega,by omega⟩
      rcases hsh with hsh|⟨i,hsi,hi3⟩
      ·skip
       rw[if_pos hsh] at hs
       refine r_sel (townP b t) ?_
       refine r_town fun bb c0 c1 c2 pb=>?_
       refine r_cat ?_
       refine r_region (p_mv rfl rfl (p_fa fa_91_1 rfl rfl (p_ldc tc_3 rfl (by rfl) rfl ?_)))
       refine p_callv cf_100 (.c rfl (.c rfl .n)) rfl ((town_Clerk_n _ b bb t.ws c0 c1 c2 pb xn hsh).q) ?_
       refine p_as rfl rfl (o_keep (kp [4,7] rfl) (r_seq (r_sr (p_mv rfl rfl (l_op (x_p (pv_peqn Tryz.underlying59 (.n rfl) rfl rfl rfl fS) rfl rfl (o_keep (kp [4,7,50] rfl) (r_cond _ rfl (fun h8=>?_) (fun h8=>?_)))))))))
       ·skip
        refine r_sr (p_as rfl rfl (o_keep (kp [4,7] rfl) ?_))
        refine r_retv hF rfl (.c (.t rfl) .n) ?_ ?_
        ·rw[hs];refine Ent.c (townP_close (t:=t) bb c0 c1 c2 pb rfl) ?_;apply eI;repeat constructor
        ·rw[hs];rfl
       ·simp at h8
      ·skip
       obtain⟨k,hk3⟩:=getlt (l:=t.ks) (i:=i) (by omega)
       obtain⟨hK,hkn,hkw⟩:=hT.k i k hk3
       rw[if_neg (by omega),show xn.toNat=i by omega,hk3] at hs
       dsimp only at hs
       rw[hK.crash.1,set_selfE hk3] at hs
       refine r_sel (townP b t) ?_
       refine r_town fun bb c0 c1 c2 pb=>?_
       refine r_cat ?_
       refine r_region (p_mv rfl rfl (p_fa fa_91_1 rfl rfl (p_ldc tc_3 rfl (by rfl) rfl ?_)))
       refine p_callv cf_100 (.c rfl (.c rfl .n)) rfl ((town_Clerk_s _ b bb t.ws c0 c1 c2 pb xn i hsi hi3).q) ?_
       refine p_as rfl rfl (o_keep (kp [4,7] rfl) (r_seq (r_sr (p_mv rfl rfl (l_op (x_p (pv_peqn Tryz.underlying59 (.n rfl) rfl rfl rfl fS) rfl rfl (o_keep (kp [4,7,50] rfl) (r_cond _ rfl (fun h9=>?_) (fun h9=>?_)))))))))
       ·simp at h9
       ·skip
        refine r_skip ?_
        refine r_many (P:=clerkP) (bs:=[c0,c1,c2]) i (cAt_get hi3) hk3 ?_
        refine r_ex fun kb=>?_
        refine r_cat ?_
        refine r_region (p_mv rfl rfl (p_nil rfl rfl (p_fa fa_125_0 rfl rfl (p_ldc tc_122 rfl (by rfl) rfl ?_))))
        refine p_callc cf_101 (.c rfl .n) rfl (keep_Crash _ kb k hK) ?_
        refine o_keep (kp [4] rfl) (r_end (r_sr (p_as rfl rfl (o_keep (kp [4] rfl) ?_))))
        refine r_retv hF rfl (.c (.t rfl) .n) ?_ ?_
        ·rw[hs];refine Ent.tr (clerkP_close (b:=cAt c0 c1 c2 i) (k:=k) kb rfl) ?_;refine Ent.tr (Ent.mono (SelX.ent (X:=restP clerkP [c0,c1,c2] t.ks i))) ?_;refine Ent.tr (many_back (cAt_get hi3) hk3) ?_;refine Ent.c (townP_close (t:=t) bb c0 c1 c2 pb rfl) ?_;apply eI;repeat constructor
        ·rw[hs];rfl
     ·skip
      have q7:¬ xk=7:=of_decide_eq_false h7
      refine r_sr (p_eql rfl rfl rfl (p_as rfl rfl (o_keep (kp [0,4,56] rfl) (r_cond _ rfl (fun h10=>?_) (fun h10=>?_)))))
      ·skip
       have q8:xk=8:=of_decide_eq_true h10
       have hs:=stepT_8 (t:=t) (x:=⟨xk,xn,xw⟩) q8
       refine r_sel (townP b t) ?_
       refine r_town fun bb c0 c1 c2 pb=>?_
       refine r_cat ?_
       refine r_region (p_mv rfl rfl (p_nil rfl rfl (p_fa fa_62_0 rfl rfl (p_ldc tc_55 rfl (by rfl) rfl ?_))))
       refine p_callc cf_102 (.c rfl .n) rfl (broker_Crash _ bb t.b hT.b) ?_
       refine o_keep (kp [4] rfl) (r_end (r_sr (p_as rfl rfl (o_keep (kp [4] rfl) ?_))))
       refine r_retv hF rfl (.c (.t rfl) .n) ?_ ?_
       ·rw[hs];refine Ent.c (townP_close (t:={t with b:=crashB t.b}) bb c0 c1 c2 pb rfl) ?_;apply eI;repeat constructor
       ·rw[hs];rfl
      ·skip
       have q8:¬ xk=8:=of_decide_eq_false h10
       have hs:=stepT_9 (t:=t) (x:=⟨xk,xn,xw⟩) q1 q2 hk345 q6 q7 q8
       refine r_sr (p_as rfl rfl (o_keep (kp [4] rfl) ?_))
       refine r_retv hF rfl (.c (.t rfl) .n) ?_ ?_
       ·rw[hs];refine Ent.c (SelX.ent) ?_;apply eI;repeat constructor
       ·rw[hs];rfl
theorem town_Calm (M:Amb)(b:Nat)(t:TownS)(hT:TInv t):FnC Tryz.prog M 59 [ptr b] (.int .i64 (calmT t).2) [townP b t] [townP b (calmT t).1]:=by
 refine fnc_intro Tryz.func59 rfl Tryz.ntmps59 rfl fun R F hF=>?_
 refine r_cat ?_
 refine r_sr (p_as rfl rfl (o_keep (kp [0,2] rfl) (r_seq (r_sr (p_as rfl rfl (o_keep (kp [0,2,3] rfl) (r_block ?_)))))))
 refine r_loop_2 (fun (n:Nat) (t1:TownS)=>[(3,true,.int .i64 (n:Int))]) (kp [0,2] rfl) (fun (n:Nat) (t1:TownS)=>townP b t1::R) (fun (n:Nat) (t1:TownS)=>n≤20∧TInv t1∧calmT t=calmN (20 - n) (n:Int) t1) (fun (n:Nat) (t1:TownS)=>20 - n) (0) (t) ?_ (kp [3] rfl) ?_ (fun n t1 hI=>?_)
 ·exact⟨Nat.zero_le _,hT,rfl⟩
 ·apply eI;repeat constructor
 ·skip
  obtain⟨hn,hT1,hC⟩:=hI
  refine r_seq (r_sr (p_mv rfl rfl (p_lss rfl rfl rfl (o_keep (kp [0,2,3,5] rfl) (r_cond _ rfl (fun h1=>?_) (fun h1=>?_))))))
  ·skip
   have hn20:n<20:=by have:=of_decide_eq_true h1;omega
   refine r_skip (r_seq (r_block (r_seq (r_block ?_))))
   refine r_loop_1 (fun (t2:TownS)=>[]) (kp [0,2,3] rfl) (fun (t2:TownS)=>townP b t2::R) (fun (t2:TownS)=>TInv t2∧drainT t2=drainT t1) (fun (t2:TownS)=>wgtL t2.post) (t1) ?_ (.n) ?_ (fun t2 hI=>?_)
   ·exact⟨hT1,rfl⟩
   ·apply eI;repeat constructor
   ·skip
    obtain⟨hT2,hD⟩:=hI
    refine r_seq (r_seq ?_)
    refine r_sel (townP b t2) ?_
    refine r_town fun bb c0 c1 c2 pb=>?_
    refine r_cat ?_
    refine r_region (p_mv rfl rfl (p_nil rfl rfl (p_fa fa_62_3 rfl rfl (p_ldc tc_57 rfl (by rfl) rfl ?_))))
    refine p_callv cf_103 (.c rfl .n) rfl ((post_Len _ pb t2.post).q) ?_
    refine p_gtr rfl rfl rfl (o_keep (kp [0,2,3,13] rfl) (r_cond _ rfl (fun h2=>?_) (fun h2=>?_)))
    ·skip
     have h0:0<t2.post.length:=by have:=of_decide_eq_true h2;omega
     refine r_skip (r_block ?_)
     refine r_ent (townP_close (b:=b) (t:=t2) bb c0 c1 c2 pb rfl) ?_
     refine r_region (p_mv rfl rfl ?_)
     refine p_callc cf_104 (.c rfl (.c rfl .n)) rfl (town_deliver _ b t2 hT2 0) ?_
     refine o_keep (kp [0,2,3] rfl) (r_end ?_)
     refine r_back_1 ((deliverT t2 0).1) ?_ ?_ (Keep.app (.n) (kp [0,2,3] rfl)) ?_
     ·exact⟨hT2.deliver 0,by rw[← hD];exact (drainT_step h0).symm⟩
     ·(obtain⟨m,hm⟩:=takeM_some' (l:=t2.post) 0 h0;exact deliver_wgt hm)
     ·apply eI;repeat constructor
    ·skip
     have h0:¬ 0<t2.post.length:=by have:=of_decide_eq_false h2;omega
     have hDe:drainT t1=t2:=by rw[← hD];exact drainT_end h0
     have hC2:=hC
     rw[show 20 - n=(19 - n)+1 by omega] at hC2
     unfold calmN at hC2
     rw[hDe] at hC2
     refine r_exit rfl (r_seq (r_sr (p_mv rfl rfl (p_nil rfl rfl (p_fa fa_62_0 rfl rfl (p_ldc tc_55 rfl (by rfl) rfl ?_))))))
     refine p_calle cf_67 (.c rfl .n) rfl (broker_Due _ bb t2.b hT2.b) fun dv=>?_
     refine o_cat ?_
     refine o_rd dv fun hrd=>?_
     refine l_op (x_p (pv_lens (Rd.len hrd) ⟨_,Tryz.underlying70⟩ (.n rfl) rfl rfl rfl rfl fR) rfl rfl (p_eql rfl rfl rfl (o_keep (kp [0,2,3,22] rfl) (r_cond _ rfl (fun h3=>?_) (fun h3=>?_)))))
     ·skip
      have hd0:(dueB t2.b).length=0:=by have:=of_decide_eq_true h3;omega
      rw[if_pos hd0] at hC2
      have hs:=hC2
      refine r_sr (p_mv rfl rfl (p_as rfl rfl (o_keep (kp [0,2,3] rfl) ?_)))
      refine r_retv hF rfl (.c (.t rfl) .n) ?_ ?_
      ·refine Ent.catI ?_;rw[hs];refine Ent.c (townP_close (t:=t2) bb c0 c1 c2 pb rfl) ?_;apply eI;repeat constructor
      ·rw[hs];rfl
     ·skip
      have hd0:¬ (dueB t2.b).length=0:=by have:=of_decide_eq_false h3;omega
      rw[if_neg hd0] at hC2
      refine r_skip ?_
      refine r_ent (townP_close (b:=b) (t:=t2) bb c0 c1 c2 pb rfl) ?_
      refine r_region (p_mv rfl rfl ?_)
      refine p_callc cf_97 (.c rfl .n) rfl (town_tick _ b t2 hT2) ?_
      refine o_keep (kp [0,2,3] rfl) (r_end (r_region (p_mv rfl rfl (p_add rfl rfl (by omega) rfl (p_as rfl rfl (o_keep (kp [0,2,3] rfl) ?_))))))
      refine r_back_2 (n+1) (tickT t2) ?_ ?_ (Keep.app (kp [3] rfl) (kp [0,2] rfl)) ?_
      ·exact⟨by omega,hT2.tick,by rw[hC2,show 20 - (n+1)=19 - n by omega];rfl⟩
      ·omega
      ·apply eI;repeat constructor
  ·skip
   have hn20:n=20:=by have:=of_decide_eq_false h1;omega
   subst hn20
   have hs:calmT t=(t1,20):=hC
   refine r_exit rfl (r_sr (p_as rfl rfl (o_keep (kp [2] rfl) ?_)))
   refine r_retv hF rfl (.c (.t rfl) .n) ?_ ?_
   ·refine Ent.catI ?_;rw[hs];refine Ent.c (SelX.ent) ?_;apply eI;repeat constructor
   ·rw[hs];rfl
theorem wset{vs W:List Int}{n:Nat}{x:Int}(h:∀ j:Nat,j<n→vs.getD j 0=W.getD j 0)(hl:n<vs.length)(hx:x=W.getD n 0):∀ j:Nat,j<n+1→(vs.set n x).getD j 0=W.getD j 0:=fun j hj=>by
  by_cases e:j=n
  · subst e;simp only[List.getD_eq_getElem?_getD] at hx ⊢;rw[List.getElem?_set_self hl];exact hx
  · have:=h j (by omega)
    simp only[List.getD_eq_getElem?_getD] at this ⊢
    rw[List.getElem?_set_ne (by omega)];exact this
theorem wext{vs W:List Int}(h1:vs.length=6)(h2:W.length=6)(h:∀ j:Nat,j<6→vs.getD j 0=W.getD j 0):vs=W:=by
  refine List.ext_getElem? fun j=>?_
  rcases Nat.lt_or_ge j 6 with hj|hj
  · have:=h j hj
    simp only[List.getD_eq_getElem?_getD] at this
    rw[List.getElem?_eq_getElem (by omega),List.getElem?_eq_getElem (by omega)] at this ⊢
    simpa using this
  · rw[List.getElem?_eq_none (by omega),List.getElem?_eq_none (by omega)]
theorem c3_get{c0 c1 c2 s:Nat}(h:s<3):([ptr c0,ptr c1,ptr c2]:List Value)[s]?=some (ptr (cAt c0 c1 c2 s)):=by
  rcases lt3 h with rfl|rfl|rfl<;>rfl
theorem cnt_at (a b:Cnt){q:Nat}(h:q<2):((cntL a++cntL b).drop (q*3)).take 3=cntL (if q=0 then a else b):=by
  rcases (show q=0∨q=1 by omega) with rfl|rfl<;>rfl
theorem broker_WantsN (M:Amb)(b:Nat)(s:BrokS)(hI:BInv s)(n:Int)(hw:∀ d∈s.l,d.wants.length≤100000):FnN (α:=Value) Tryz.prog M 107 [ptr b,.int .i64 n] [brokP b s] (fun x=>x) (fun x=>[sl x 93 2 ((wantsB s n).map rW)]):=broker_Wants M b s hI n hw
theorem wantsB_le{b:BrokS}(h:BInv b)(n:Int):(wantsB b n).length≤4:=by
  unfold wantsB
  split
  · simp
  · split
    · simp
    · rename_i d hd;exact (h.d d (List.mem_of_getElem? hd)).le.1
theorem wants_b{b:BrokS}(h:BInv b):∀ d∈b.l,d.wants.length≤100000:=fun d hd=>by have:=(h.d d hd).le.1;omega
theorem town_World_o (M:Amb)(b:Nat)(t:TownS)(bb c0 c1 c2 pb:Nat)(hT:TInv t):FnC Tryz.prog M 60 [ptr b] (.agg ((worldT t).map vI).toArray) [blk b (tnC bb t.ws c0 c1 c2 pb) 62,brokP bb t.b,manyP clerkP [c0,c1,c2] t.ks,postP pb t.post] [blk b (tnC bb t.ws c0 c1 c2 pb) 62,brokP bb t.b,manyP clerkP [c0,c1,c2] t.ks,postP pb t.post]:=by
 have hlen3:=hT.len
 have hWl:=worldT_len hlen3
 refine fnc_intro Tryz.func60 rfl Tryz.ntmps60 rfl fun R F hF=>?_
 refine r_cat ?_
 refine r_sr (p_alloc zr_38 rfl fun b2=>?_)
 refine o_keep (kp [0,2] rfl) (r_sr (p_alloc zr_38 rfl fun b3=>?_))
 refine o_keep (kp [0,2,3] rfl) (r_seq (r_sr (p_mv rfl rfl (p_nil rfl rfl (p_fa fa_62_2 rfl rfl ?_)))))
 refine p_lda ta_60 rfl (by exact (.s (.s (.s .z)))) rfl ?_
 refine p_mv rfl rfl (o_keep (kp [2,3,11,12] rfl) (r_block ?_))
 refine r_loop_2 (fun (s:Nat) (vs:List Int)=>[(12,true,.int .i64 (s:Int))]) (kp [2,3,11] rfl) (fun (s:Nat) (vs:List Int)=>blk b3 (vs.map vI) 38::blk b2 [.int .i64 0,.int .i64 0,.int .i64 0,.int .i64 0,.int .i64 0,.int .i64 0] 38::blk b (tnC bb t.ws c0 c1 c2 pb) 62::brokP bb t.b::manyP clerkP [c0,c1,c2] t.ks::postP pb t.post::R) (fun (s:Nat) (vs:List Int)=>s≤3∧vs.length=6∧∀ j:Nat,j<2*s→vs.getD j 0=(worldT t).getD j 0) (fun (s:Nat) (vs:List Int)=>3 - s) (0) ([0,0,0,0,0,0]) ?_ (kp [12] rfl) ?_ (fun s vs hI=>?_)
 ·exact⟨Nat.zero_le _,rfl,fun j hj=>by omega⟩
 ·apply eI;repeat constructor
 ·skip
  obtain⟨hs0,hvl,hv⟩:=hI
  refine r_sr (p_lss rfl rfl rfl (o_keep (kp [2,3,11,12,13] rfl) (r_seq (r_cond _ rfl (fun h1=>?_) (fun h1=>?_)))))
  ·skip
   have hs3:s<3:=by have:=of_decide_eq_true h1;omega
   obtain⟨k,hk3⟩:=getlt (l:=t.ks) (i:=s) (by omega)
   obtain⟨hw1,hw2⟩:=worldT_get hlen3 hk3
   refine r_skip (r_seq (r_block (r_sr (p_mv rfl rfl (l_op (x_p (pv_indexc (i:=s) Tryz.underlying60 tc_59 (fun hg=>⟨rfl,hs3⟩) (.n rfl) rfl rfl rfl fS (fun hg=>c3_get hs3)) rfl rfl (p_as rfl rfl (p_as rfl rfl ?_))))))))
   refine o_keep (kp [2,3,4,5,11,12] rfl) (r_seq ?_)
   refine r_many (P:=clerkP) (bs:=[c0,c1,c2]) s (cAt_get hs3) hk3 ?_
   refine r_ex fun kb=>?_
   refine r_cat ?_
   refine r_sel (keepP kb k) ?_
   refine r_ex2 fun sb lv=>?_
   refine r_cat ?_
   refine r_rd lv fun hrl=>?_
   refine r_region (p_mv rfl rfl (p_nil rfl rfl (p_fa fa_125_0 rfl rfl (p_ldc tc_122 rfl (by rfl) rfl ?_))))
   refine p_nil rfl rfl (p_fa fa_155_0 rfl rfl (p_ldc tc_152 rfl (by rfl) rfl ?_))
   refine p_callv cf_105 (.c rfl .n) rfl ((shop_Counts _ sb k.shop).q) ?_
   refine p_mv rfl rfl (o_keep (kp [2,3,4,11,12,23,24] rfl) (r_block ?_))
   refine r_loop_2 (fun (q:Nat) (vs1:List Int)=>[(24,true,.int .i64 (q:Int))]) (kp [2,3,4,11,12,23] rfl) (fun (q:Nat) (vs1:List Int)=>blk b3 (vs1.map vI) 38::blk b2 [.int .i64 0,.int .i64 0,.int .i64 0,.int .i64 0,.int .i64 0,.int .i64 0] 38::blk b (tnC bb t.ws c0 c1 c2 pb) 62::brokP bb t.b::restP clerkP [c0,c1,c2] t.ks s::postP pb t.post::blk (cAt c0 c1 c2 s) [ptr kb,.int .i64 k.no] 125::blk kb (kpC k sb lv) 155::sl lv 181 5 (k.l.map rR)::shopP sb k.shop::R) (fun (q:Nat) (vs1:List Int)=>q≤2∧vs1.length=6∧∀ j:Nat,j<2*s+q→vs1.getD j 0=(worldT t).getD j 0) (fun (q:Nat) (vs1:List Int)=>2 - q) (0) (vs) ?_ (kp [24] rfl) ?_ (fun q vs1 hI=>?_)
   ·exact⟨Nat.zero_le _,hvl,hv⟩
   ·apply eI;repeat constructor
   ·skip
    obtain⟨hq0,hvl1,hv1⟩:=hI
    refine r_sr (p_lss rfl rfl rfl (o_keep (kp [2,3,4,11,12,23,24,25] rfl) (r_seq (r_cond _ rfl (fun h2=>?_) (fun h2=>?_)))))
    ·skip
     have hq2:q<2:=by have:=of_decide_eq_true h2;omega
     obtain⟨ix,hix⟩:∃ ix:Nat,ix=2*s+q:=⟨_,rfl⟩
     refine r_skip (r_seq (r_block (r_sr (p_mv rfl rfl (l_op (x_p (pv_index (i:=q) Tryz.underlying105 ta_104 (fun hg=>⟨rfl,hq2⟩) (.n rfl) rfl rfl rfl fS (fun hg=>cnt_at _ _ hq2)) rfl rfl (p_alloc zr_104 rfl fun b7=>?_)))))))
     refine p_as rfl rfl ?_
     refine p_store (.ofA ta_104) rfl rfl rfl (by first|rfl|exact rfl) (by first|rfl|exact (by first|rfl|simp[vI,Value.oneCell'])) (Ins.whole (by first|rfl|(simp only[List.length_map,List.length_cons,List.length_nil];omega)|(simp[*];done)|(simp[*];rfl))) ?_
     refine o_keep (.c 2 rfl (.c 3 rfl (.c 4 rfl (.c 6 rfl (.c 7 rfl (.c 11 rfl (.c 12 rfl (.c 23 rfl (.c 24 rfl .n))))))))) (r_region (p_mv rfl rfl (p_mul rfl rfl (by omega) rfl (p_mv rfl rfl (p_add rfl rfl (by omega) rfl (p_fa fa_104_0 rfl rfl (p_ldc tc_3 rfl (by rfl) rfl ?_)))))))
     refine l_op (x_p (pv_aidx (i:=ix) Tryz.underlying38 (.ofC tc_3) (fun hg=>⟨by omega,by omega⟩) (.n rfl) rfl rfl rfl fS) rfl rfl ?_)
     refine p_store (.ofC tc_3) rfl rfl rfl rfl rfl (Ins.atm' (f:=vI) (i:=ix) (by omega) (by omega)) ?_
     refine o_keep (kp [2,3,4,11,12,23,24] rfl) (r_end (r_region (p_add rfl rfl (by omega) rfl (p_mv rfl rfl (o_keep (kp [2,3,4,11,12,23,24] rfl) ?_)))))
     refine r_back_2 (q+1) (vs1.set ix (if q=0 then k.shop.c0 else k.shop.c1).v) ?_ ?_ (Keep.app (kp [24] rfl) (kp [2,3,4,11,12,23] rfl)) ?_
     ·exact⟨by omega,by simp;omega,fun j hj=>wset (n:=ix) (fun j hj=>hv1 j (by omega)) (by omega) (by rw[hix];rcases (show q=0∨q=1 by omega) with rfl|rfl;exact hw1.symm;exact hw2.symm) j (by omega)⟩
     ·omega
     ·apply eI;repeat constructor
    ·skip
     have hq2:q=2:=by have:=of_decide_eq_false h2;omega
     refine r_exit rfl (r_end (r_region (p_add rfl rfl (by omega) rfl (p_mv rfl rfl (o_keep (kp [2,3,11,12] rfl) ?_)))))
     refine r_back_2 (s+1) (vs1) ?_ ?_ (Keep.app (kp [12] rfl) (kp [2,3,11] rfl)) ?_
     ·exact⟨by omega,hvl1,fun j hj=>hv1 j (by omega)⟩
     ·omega
     ·refine Ent.tr (keepP_close (b:=kb) (k:=k) sb lv rfl rfl) ?_;refine Ent.tr (clerkP_close (b:=cAt c0 c1 c2 s) (k:=k) kb rfl) ?_;refine Ent.tr (Ent.mono (SelX.ent (X:=restP clerkP [c0,c1,c2] t.ks s))) ?_;refine Ent.tr (many_back (cAt_get hs3) hk3) ?_;apply eI;repeat constructor
  ·skip
   have hs3:s=3:=by have:=of_decide_eq_false h1;omega
   have hvW:vs=worldT t:=wext hvl hWl fun j hj=>hv j (by omega)
   refine r_exit rfl (r_sr ?_)
   refine p_lda ta_38 rfl (by exact (Tk.all (by first|rfl|assumption|(simp only[List.drop_zero,List.length_map];assumption)|(simp[*];done)))) rfl ?_
   refine p_store (.ofA ta_38) rfl rfl rfl (by first|rfl|exact (by first|rfl|assumption|(simp only[List.drop_zero,List.length_map];assumption)|(simp[*];done))) (by first|rfl|exact (by first|rfl|simp[vI,Value.oneCell'])) (Ins.whole (by simp;omega)) ?_
   refine o_keep (kp [2] rfl) ?_
   refine r_retv hF rfl (.c (.a rfl ta_38 (.blk (SelB.ent) (Tk.all rfl)) (by first|rfl|assumption|(simp only[List.drop_zero,List.length_map];assumption)|(simp[*];done))) .n) ?_ ?_
   ·refine Ent.catI ?_;apply eI;repeat constructor
   ·rw[hvW];rfl
theorem town_Serial_o (M:Amb)(b:Nat)(t:TownS)(bb c0 c1 c2 pb:Nat)(hT:TInv t):FnC Tryz.prog M 62 [ptr b] (.tuple #[.agg ((serialT t).1.map vI).toArray,.int .i64 (serialT t).2]) [blk b (tnC bb t.ws c0 c1 c2 pb) 62,brokP bb t.b,manyP clerkP [c0,c1,c2] t.ks,postP pb t.post] [blk b (tnC bb t.ws c0 c1 c2 pb) 62,brokP bb t.b,manyP clerkP [c0,c1,c2] t.ks,postP pb t.post]:=by
 have hol:=hT.b.ord_le
 refine fnc_intro Tryz.func62 rfl Tryz.ntmps62 rfl fun R F hF=>?_
 refine r_cat ?_
 refine r_sr (p_alloc zr_38 rfl fun b2=>?_)
 refine p_as rfl rfl (o_keep (kp [0,2,3] rfl) (r_sr (p_mv rfl rfl (p_nil rfl rfl (p_fa fa_62_1 rfl rfl ?_)))))
 refine p_lda ta_38 rfl (by exact (.s (.s (.s (.s (.s (.s .z))))))) rfl ?_
 refine p_alloc zr_38 rfl fun b4=>?_
 refine p_store (.ofA ta_38) rfl rfl rfl (by first|rfl|exact (by first|rfl|assumption|(simp only[List.drop_zero,List.length_map];assumption)|(simp[*];done))) (by first|rfl|exact (by first|rfl|simp[vI,Value.oneCell'])) (Ins.whole (by first|rfl|(simp only[List.length_map,List.length_cons,List.length_nil];omega)|(simp[*];done)|(simp[*];rfl))) ?_
 refine o_keep (.c 0 rfl (.c 2 rfl (.c 3 rfl (.c 4 rfl .n)))) (r_seq (r_sr (p_mv rfl rfl (p_nil rfl rfl (p_fa fa_62_0 rfl rfl (p_ldc tc_55 rfl (by rfl) rfl ?_))))))
 refine p_calle cf_64 (.c rfl .n) rfl (broker_Done _ bb t.b hT.b (by omega)) fun ov=>?_
 refine o_cat ?_
 refine o_rd ov fun hro=>?_
 refine l_op (x_p (pv_lens (Rd.len hro) ⟨_,Tryz.underlying65⟩ (.n rfl) rfl rfl rfl rfl fR) rfl rfl (p_mv rfl rfl (o_keep (kp [0,2,3,4,17,18,19] rfl) (r_block ?_))))
 refine r_loop_2 (fun (i:Nat) (wc:List Int)=>[(19,true,.int .i64 (i:Int))]) (kp [0,2,3,4,17,18] rfl) (fun (i:Nat) (wc:List Int)=>sl ov 3 1 (t.b.order.map rI)::blk b4 (wc.map vI) 38::blk b2 [.int .i64 0,.int .i64 0,.int .i64 0,.int .i64 0,.int .i64 0,.int .i64 0] 38::blk b (tnC bb t.ws c0 c1 c2 pb) 62::brokP bb t.b::manyP clerkP [c0,c1,c2] t.ks::postP pb t.post::R) (fun (i:Nat) (wc:List Int)=>i≤t.b.order.length∧wc.length=6∧serialT t=serialL t.b wc (t.b.order.drop i)) (fun (i:Nat) (wc:List Int)=>t.b.order.length - i) (0) (w6 t.ws) ?_ (kp [19] rfl) ?_ (fun i wc hI=>?_)
 ·exact⟨Nat.zero_le _,rfl,by rw[w6_eq hT.ws6];rfl⟩
 ·apply eI;repeat constructor
 ·skip
  obtain⟨hi0,hwc,hS⟩:=hI
  refine r_sr (p_lss rfl rfl rfl (o_keep (kp [0,2,3,4,17,18,19,20] rfl) (r_seq (r_cond _ rfl (fun h1=>?_) (fun h1=>?_)))))
  ·skip
   obtain⟨n,hn⟩:=getlt (l:=t.b.order) (i:=i) (by have:=of_decide_eq_true h1;omega)
   have hil:=(List.getElem?_eq_some_iff.1 hn).1
   rw[drop_at hn] at hS
   unfold serialL at hS
   have hal:=applyL_len (ws:=wc) (l:=wantsB t.b n) hwc
   refine r_skip (r_seq (r_block (r_sr (p_idx Tryz.underlying65 (.ofC tc_3) hro rfl (mapget hn) rfl rfl rfl (p_ldat 0 tc_3 (Rd.ent hro (eJ (by repeat constructor))) (mapget hn) rfl rfl rfl rfl ?_)))))
   refine p_as rfl rfl (o_keep (kp [0,2,3,4,6,17,18,19] rfl) (r_seq ?_))
   refine r_plan _ [] mo (kp [0,2,3,4,6,17,18,19] rfl) Ent.rfl ?_
   refine qr 0 [.k 4] rfl rfl rfl rfl (by kernel_rfl) rfl (fun He=>q_lda ta_38 (.n rfl) rfl rfl (fun _=>rfl) (by exact (Tk.all (by first|rfl|assumption|(simp only[List.drop_zero,List.length_map];assumption)|(simp[*];done))))) ?_
   refine yp 1 [.k 0] rfl rfl (by kernel_rfl) (u_mv rfl rfl rfl) (yp 2 [.o 1] rfl rfl (by kernel_rfl) (u_nil rfl rfl rfl) (yp 3 [.o 2] rfl rfl (by kernel_rfl) (u_fa fa_62_0 rfl rfl rfl) (yr 4 [.o 3] rfl rfl (by kernel_rfl) (fun He=>u_ldc tc_55 rfl rfl rfl (by rfl)) ?_)))
   refine yp 5 [.k 6] rfl rfl (by kernel_rfl) (u_mv rfl rfl rfl) ?_
   refine qm_three (i:=6) (j:=11) (k:=12) (by kernel_rfl) (by kernel_rfl) (by kernel_rfl) ?_ ?_ ?_
   ·skip
    refine cand_calln [.o 4,.o 5] rfl rfl rfl rfl rfl rfl cf_107 rfl (.c rfl (.c rfl .n)) ((broker_WantsN _ bb t.b hT.b n (wants_b hT.b)).on inferInstance _) fun z=>?_
    refine qm_rd z fun hrz=>?_
    refine qm_keep ?_
    refine yq 7 [.o 0,.o 6] rfl rfl (by kernel_rfl) (fun He=>rq_call cf_106 (.n rfl) rfl (.c rfl fR (.c rfl fR .n)) (fun hg=>plan_Apply _ _ z (wantsB t.b n) wc hrz.own (by have:=wantsB_le hT.b n;omega) hwc)) ?_
    refine yp 8 [.o 7] rfl rfl (by kernel_rfl) (u_mv rfl rfl rfl) (yp 9 [.o 8] rfl rfl (by kernel_rfl) (u_ext rfl rfl rfl rfl) (yp 10 [.o 8] rfl rfl (by kernel_rfl) (u_ext rfl rfl rfl rfl) ?_))
    refine qm_two (i:=11) (j:=12) (by kernel_rfl) (by kernel_rfl) (by kernel_rfl) ?_ ?_
    ·skip
     refine cand_alloc zr_38 rfl rfl rfl rfl rfl rfl fun b7=>?_
     refine qm_alloc zr_31 (i:=12) [] (by kernel_rfl) (by kernel_rfl) rfl rfl rfl rfl (by kernel_rfl) (by kernel_rfl) ⟨_,.n rfl,rfl⟩ rfl fun b8=>?_
     refine qm_store (.ofA ta_38) (i:=13) [.o 11,.o 9] (by kernel_rfl) (by kernel_rfl) rfl rfl rfl (by kernel_rfl) (by kernel_rfl) ⟨_,.n rfl,rfl⟩ rfl rfl rfl rfl (by first|rfl|exact (by first|rfl|assumption|(simp only[List.drop_zero,List.length_map];assumption)|(simp[*];done))) (by first|rfl|exact (by first|rfl|simp[vI,Value.oneCell'])) (Ins.whole (by simp;omega)) ?_
     refine qb_store (.ofA ta_31) (i:=14) [.o 12,.o 10] (by kernel_rfl) (by kernel_rfl) rfl rfl rfl (by kernel_rfl) (by kernel_rfl) (by kernel_rfl) ⟨_,.n rfl,rfl⟩ rfl rfl rfl rfl (by first|rfl|exact rfl) (by first|rfl|exact (by first|rfl|simp[vI,Value.oneCell'])) (Ins.whole (by first|rfl|(simp only[List.length_map,List.length_cons,List.length_nil];omega)|(simp[*];done)|(simp[*];rfl))) ?_
     refine qm_n (by kernel_rfl) (by kernel_rfl) (by kernel_rfl) (by kernel_rfl) (.c 0 rfl (.c 2 rfl (.c 3 rfl (.c 4 rfl (.c 7 rfl (.c 8 rfl (.c 17 rfl (.c 18 rfl (.c 19 rfl .n))))))))) ?_
     refine r_seq (r_sr (p_fa fa_31_0 rfl rfl (p_ldc tc_3 rfl (by rfl) rfl ?_)))
     refine p_neq rfl rfl rfl (o_keep (kp [0,2,3,4,7,8,17,18,19,36] rfl) (r_cond _ rfl (fun h2=>?_) (fun h2=>?_)))
     ·skip
      have hc0:(applyL wc (wantsB t.b n)).2.code≠0:=by simpa using h2
      rw[if_pos hc0] at hS
      have hs:=hS
      refine r_seq ?_
      refine r_plan (_) ([blk b2 [.int .i64 0,.int .i64 0,.int .i64 0,.int .i64 0,.int .i64 0,.int .i64 0] 38]) mo (kp [0,2,4,7,8,17,18,19] rfl) (SelB.ent) ?_
      refine yp 0 [] rfl rfl (by kernel_rfl) (pv_buildA zr_38 Tryz.underlying38 (.ofC tc_3) (.n rfl) rfl (.n)) (yp 1 [.k 8] rfl rfl (by kernel_rfl) (u_fa fa_31_0 rfl rfl rfl) (yr 2 [.o 1] rfl rfl (by kernel_rfl) (fun He=>u_ldc tc_3 rfl rfl rfl (by rfl)) ?_))
      refine qm_store (.ofA ta_38) (i:=3) [.k 2,.o 0] (by kernel_rfl) (by kernel_rfl) rfl rfl rfl (by kernel_rfl) (by kernel_rfl) ⟨_,.n rfl,rfl⟩ rfl rfl rfl rfl rfl rfl (Ins.whole rfl) ?_
      refine yp 4 [.o 2] rfl rfl (by kernel_rfl) (u_as rfl rfl rfl) ?_
      refine qm_n (by kernel_rfl) (by kernel_rfl) (by kernel_rfl) (by kernel_rfl) (kp [0,2,3,4,7,17,18,19] rfl) ?_
      refine r_retv hF rfl (.c (.a rfl ta_38 (.blk (SelB.ent) (Tk.all rfl)) rfl) (.c (.t rfl) .n)) ?_ ?_
      ·refine Ent.catI ?_;apply eI;repeat constructor
      ·rw[hs];rfl
     ·skip
      have hc0:¬ (applyL wc (wantsB t.b n)).2.code≠0:=by simpa using h2
      rw[if_neg hc0] at hS
      refine r_skip (r_region ?_)
      refine p_lda ta_38 rfl (by exact (Tk.all (by first|rfl|assumption|(simp only[List.drop_zero,List.length_map];assumption)|(simp[*];done)))) rfl ?_
      refine p_store (.ofA ta_38) rfl rfl rfl (by first|rfl|exact (by first|rfl|assumption|(simp only[List.drop_zero,List.length_map];assumption)|(simp[*];done))) (by first|rfl|exact (by first|rfl|simp[vI,Value.oneCell'])) (Ins.whole (by simp;omega)) ?_
      refine o_keep (kp [0,2,3,4,17,18,19] rfl) (r_end (r_region (p_add rfl rfl (by omega) rfl (p_mv rfl rfl (o_keep (kp [0,2,3,4,17,18,19] rfl) ?_)))))
      refine r_back_2 (i+1) ((applyL wc (wantsB t.b n)).1) ?_ ?_ (Keep.app (kp [19] rfl) (kp [0,2,3,4,17,18] rfl)) ?_
      ·exact⟨by omega,hal,hS⟩
      ·omega
      ·apply eI;repeat constructor
    ·skip
     refine cand_alloc zr_31 rfl rfl rfl rfl rfl rfl fun b8=>?_
     refine qm_alloc zr_38 (i:=11) [] (by kernel_rfl) (by kernel_rfl) rfl rfl rfl rfl (by kernel_rfl) (by kernel_rfl) ⟨_,.n rfl,rfl⟩ rfl fun b7=>?_
     refine qm_store (.ofA ta_38) (i:=13) [.o 11,.o 9] (by kernel_rfl) (by kernel_rfl) rfl rfl rfl (by kernel_rfl) (by kernel_rfl) ⟨_,.n rfl,rfl⟩ rfl rfl rfl rfl (by first|rfl|exact (by first|rfl|assumption|(simp only[List.drop_zero,List.length_map];assumption)|(simp[*];done))) (by first|rfl|exact (by first|rfl|simp[vI,Value.oneCell'])) (Ins.whole (by simp;omega)) ?_
     refine qb_store (.ofA ta_31) (i:=14) [.o 12,.o 10] (by kernel_rfl) (by kernel_rfl) rfl rfl rfl (by kernel_rfl) (by kernel_rfl) (by kernel_rfl) ⟨_,.n rfl,rfl⟩ rfl rfl rfl rfl (by first|rfl|exact rfl) (by first|rfl|exact (by first|rfl|simp[vI,Value.oneCell'])) (Ins.whole (by first|rfl|(simp only[List.length_map,List.length_cons,List.length_nil];omega)|(simp[*];done)|(simp[*];rfl))) ?_
     refine qm_n (by kernel_rfl) (by kernel_rfl) (by kernel_rfl) (by kernel_rfl) (.c 0 rfl (.c 2 rfl (.c 3 rfl (.c 4 rfl (.c 7 rfl (.c 8 rfl (.c 17 rfl (.c 18 rfl (.c 19 rfl .n))))))))) ?_
     refine r_seq (r_sr (p_fa fa_31_0 rfl rfl (p_ldc tc_3 rfl (by rfl) rfl ?_)))
     refine p_neq rfl rfl rfl (o_keep (kp [0,2,3,4,7,8,17,18,19,36] rfl) (r_cond _ rfl (fun h3=>?_) (fun h3=>?_)))
     ·skip
      have hc0:(applyL wc (wantsB t.b n)).2.code≠0:=by simpa using h3
      rw[if_pos hc0] at hS
      have hs:=hS
      refine r_seq ?_
      refine r_plan (_) ([blk b2 [.int .i64 0,.int .i64 0,.int .i64 0,.int .i64 0,.int .i64 0,.int .i64 0] 38]) mo (kp [0,2,4,7,8,17,18,19] rfl) (SelB.ent) ?_
      refine yp 0 [] rfl rfl (by kernel_rfl) (pv_buildA zr_38 Tryz.underlying38 (.ofC tc_3) (.n rfl) rfl (.n)) (yp 1 [.k 8] rfl rfl (by kernel_rfl) (u_fa fa_31_0 rfl rfl rfl) (yr 2 [.o 1] rfl rfl (by kernel_rfl) (fun He=>u_ldc tc_3 rfl rfl rfl (by rfl)) ?_))
      refine qm_store (.ofA ta_38) (i:=3) [.k 2,.o 0] (by kernel_rfl) (by kernel_rfl) rfl rfl rfl (by kernel_rfl) (by kernel_rfl) ⟨_,.n rfl,rfl⟩ rfl rfl rfl rfl rfl rfl (Ins.whole rfl) ?_
      refine yp 4 [.o 2] rfl rfl (by kernel_rfl) (u_as rfl rfl rfl) ?_
      refine qm_n (by kernel_rfl) (by kernel_rfl) (by kernel_rfl) (by kernel_rfl) (kp [0,2,3,4,7,17,18,19] rfl) ?_
      refine r_retv hF rfl (.c (.a rfl ta_38 (.blk (SelB.ent) (Tk.all rfl)) rfl) (.c (.t rfl) .n)) ?_ ?_
      ·refine Ent.catI ?_;apply eI;repeat constructor
      ·rw[hs];rfl
     ·skip
      have hc0:¬ (applyL wc (wantsB t.b n)).2.code≠0:=by simpa using h3
      rw[if_neg hc0] at hS
      refine r_skip (r_region ?_)
      refine p_lda ta_38 rfl (by exact (Tk.all (by first|rfl|assumption|(simp only[List.drop_zero,List.length_map];assumption)|(simp[*];done)))) rfl ?_
      refine p_store (.ofA ta_38) rfl rfl rfl (by first|rfl|exact (by first|rfl|assumption|(simp only[List.drop_zero,List.length_map];assumption)|(simp[*];done))) (by first|rfl|exact (by first|rfl|simp[vI,Value.oneCell'])) (Ins.whole (by simp;omega)) ?_
      refine o_keep (kp [0,2,3,4,17,18,19] rfl) (r_end (r_region (p_add rfl rfl (by omega) rfl (p_mv rfl rfl (o_keep (kp [0,2,3,4,17,18,19] rfl) ?_)))))
      refine r_back_2 (i+1) ((applyL wc (wantsB t.b n)).1) ?_ ?_ (Keep.app (kp [19] rfl) (kp [0,2,3,4,17,18] rfl)) ?_
      ·exact⟨by omega,hal,hS⟩
      ·omega
      ·apply eI;repeat constructor
   ·skip
    refine cand_alloc zr_38 rfl rfl rfl rfl rfl rfl fun b7=>?_
    refine qm_two (i:=6) (j:=12) (by kernel_rfl) (by kernel_rfl) (by kernel_rfl) ?_ ?_
    ·skip
     refine cand_calln [.o 4,.o 5] rfl rfl rfl rfl rfl rfl cf_107 rfl (.c rfl (.c rfl .n)) ((broker_WantsN _ bb t.b hT.b n (wants_b hT.b)).on inferInstance _) fun z=>?_
     refine qm_rd z fun hrz=>?_
     refine qm_keep ?_
     refine yq 7 [.o 0,.o 6] rfl rfl (by kernel_rfl) (fun He=>rq_call cf_106 (.n rfl) rfl (.c rfl fR (.c rfl fR .n)) (fun hg=>plan_Apply _ _ z (wantsB t.b n) wc hrz.own (by have:=wantsB_le hT.b n;omega) hwc)) ?_
     refine yp 8 [.o 7] rfl rfl (by kernel_rfl) (u_mv rfl rfl rfl) (yp 9 [.o 8] rfl rfl (by kernel_rfl) (u_ext rfl rfl rfl rfl) (yp 10 [.o 8] rfl rfl (by kernel_rfl) (u_ext rfl rfl rfl rfl) ?_))
     refine qm_alloc zr_31 (i:=12) [] (by kernel_rfl) (by kernel_rfl) rfl rfl rfl rfl (by kernel_rfl) (by kernel_rfl) ⟨_,.n rfl,rfl⟩ rfl fun b8=>?_
     refine qm_store (.ofA ta_38) (i:=13) [.o 11,.o 9] (by kernel_rfl) (by kernel_rfl) rfl rfl rfl (by kernel_rfl) (by kernel_rfl) ⟨_,.n rfl,rfl⟩ rfl rfl rfl rfl (by first|rfl|exact (by first|rfl|assumption|(simp only[List.drop_zero,List.length_map];assumption)|(simp[*];done))) (by first|rfl|exact (by first|rfl|simp[vI,Value.oneCell'])) (Ins.whole (by simp;omega)) ?_
     refine qb_store (.ofA ta_31) (i:=14) [.o 12,.o 10] (by kernel_rfl) (by kernel_rfl) rfl rfl rfl (by kernel_rfl) (by kernel_rfl) (by kernel_rfl) ⟨_,.n rfl,rfl⟩ rfl rfl rfl rfl (by first|rfl|exact rfl) (by first|rfl|exact (by first|rfl|simp[vI,Value.oneCell'])) (Ins.whole (by first|rfl|(simp only[List.length_map,List.length_cons,List.length_nil];omega)|(simp[*];done)|(simp[*];rfl))) ?_
     refine qm_n (by kernel_rfl) (by kernel_rfl) (by kernel_rfl) (by kernel_rfl) (.c 0 rfl (.c 2 rfl (.c 3 rfl (.c 4 rfl (.c 7 rfl (.c 8 rfl (.c 17 rfl (.c 18 rfl (.c 19 rfl .n))))))))) ?_
     refine r_seq (r_sr (p_fa fa_31_0 rfl rfl (p_ldc tc_3 rfl (by rfl) rfl ?_)))
     refine p_neq rfl rfl rfl (o_keep (kp [0,2,3,4,7,8,17,18,19,36] rfl) (r_cond _ rfl (fun h4=>?_) (fun h4=>?_)))
     ·skip
      have hc0:(applyL wc (wantsB t.b n)).2.code≠0:=by simpa using h4
      rw[if_pos hc0] at hS
      have hs:=hS
      refine r_seq ?_
      refine r_plan (_) ([blk b2 [.int .i64 0,.int .i64 0,.int .i64 0,.int .i64 0,.int .i64 0,.int .i64 0] 38]) mo (kp [0,2,4,7,8,17,18,19] rfl) (SelB.ent) ?_
      refine yp 0 [] rfl rfl (by kernel_rfl) (pv_buildA zr_38 Tryz.underlying38 (.ofC tc_3) (.n rfl) rfl (.n)) (yp 1 [.k 8] rfl rfl (by kernel_rfl) (u_fa fa_31_0 rfl rfl rfl) (yr 2 [.o 1] rfl rfl (by kernel_rfl) (fun He=>u_ldc tc_3 rfl rfl rfl (by rfl)) ?_))
      refine qm_store (.ofA ta_38) (i:=3) [.k 2,.o 0] (by kernel_rfl) (by kernel_rfl) rfl rfl rfl (by kernel_rfl) (by kernel_rfl) ⟨_,.n rfl,rfl⟩ rfl rfl rfl rfl rfl rfl (Ins.whole rfl) ?_
      refine yp 4 [.o 2] rfl rfl (by kernel_rfl) (u_as rfl rfl rfl) ?_
      refine qm_n (by kernel_rfl) (by kernel_rfl) (by kernel_rfl) (by kernel_rfl) (kp [0,2,3,4,7,17,18,19] rfl) ?_
      refine r_retv hF rfl (.c (.a rfl ta_38 (.blk (SelB.ent) (Tk.all rfl)) rfl) (.c (.t rfl) .n)) ?_ ?_
      ·refine Ent.catI ?_;apply eI;repeat constructor
      ·rw[hs];rfl
     ·skip
      have hc0:¬ (applyL wc (wantsB t.b n)).2.code≠0:=by simpa using h4
      rw[if_neg hc0] at hS
      refine r_skip (r_region ?_)
      refine p_lda ta_38 rfl (by exact (Tk.all (by first|rfl|assumption|(simp only[List.drop_zero,List.length_map];assumption)|(simp[*];done)))) rfl ?_
      refine p_store (.ofA ta_38) rfl rfl rfl (by first|rfl|exact (by first|rfl|assumption|(simp only[List.drop_zero,List.length_map];assumption)|(simp[*];done))) (by first|rfl|exact (by first|rfl|simp[vI,Value.oneCell'])) (Ins.whole (by simp;omega)) ?_
      refine o_keep (kp [0,2,3,4,17,18,19] rfl) (r_end (r_region (p_add rfl rfl (by omega) rfl (p_mv rfl rfl (o_keep (kp [0,2,3,4,17,18,19] rfl) ?_)))))
      refine r_back_2 (i+1) ((applyL wc (wantsB t.b n)).1) ?_ ?_ (Keep.app (kp [19] rfl) (kp [0,2,3,4,17,18] rfl)) ?_
      ·exact⟨by omega,hal,hS⟩
      ·omega
      ·apply eI;repeat constructor
    ·skip
     refine cand_alloc zr_31 rfl rfl rfl rfl rfl rfl fun b8=>?_
     refine qm_calln (i:=6) [.o 4,.o 5] (by kernel_rfl) (by kernel_rfl) rfl rfl rfl rfl (by kernel_rfl) (by kernel_rfl) ⟨_,.n rfl,rfl⟩ cf_107 rfl (.c rfl (.c rfl .n)) (broker_WantsN _ bb t.b hT.b n (wants_b hT.b)) fun z=>?_
     refine qm_cat ?_
     refine qm_rd z fun hrz=>?_
     refine qm_keep ?_
     refine yq 7 [.o 0,.o 6] rfl rfl (by kernel_rfl) (fun He=>rq_call cf_106 (.n rfl) rfl (.c rfl fR (.c rfl fR .n)) (fun hg=>plan_Apply _ _ z (wantsB t.b n) wc hrz.own (by have:=wantsB_le hT.b n;omega) hwc)) ?_
     refine yp 8 [.o 7] rfl rfl (by kernel_rfl) (u_mv rfl rfl rfl) (yp 9 [.o 8] rfl rfl (by kernel_rfl) (u_ext rfl rfl rfl rfl) (yp 10 [.o 8] rfl rfl (by kernel_rfl) (u_ext rfl rfl rfl rfl) ?_))
     refine qm_store (.ofA ta_38) (i:=13) [.o 11,.o 9] (by kernel_rfl) (by kernel_rfl) rfl rfl rfl (by kernel_rfl) (by kernel_rfl) ⟨_,.n rfl,rfl⟩ rfl rfl rfl rfl (by first|rfl|exact (by first|rfl|assumption|(simp only[List.drop_zero,List.length_map];assumption)|(simp[*];done))) (by first|rfl|exact (by first|rfl|simp[vI,Value.oneCell'])) (Ins.whole (by simp;omega)) ?_
     refine qb_store (.ofA ta_31) (i:=14) [.o 12,.o 10] (by kernel_rfl) (by kernel_rfl) rfl rfl rfl (by kernel_rfl) (by kernel_rfl) (by kernel_rfl) ⟨_,.n rfl,rfl⟩ rfl rfl rfl rfl (by first|rfl|exact rfl) (by first|rfl|exact (by first|rfl|simp[vI,Value.oneCell'])) (Ins.whole (by first|rfl|(simp only[List.length_map,List.length_cons,List.length_nil];omega)|(simp[*];done)|(simp[*];rfl))) ?_
     refine qm_n (by kernel_rfl) (by kernel_rfl) (by kernel_rfl) (by kernel_rfl) (.c 0 rfl (.c 2 rfl (.c 3 rfl (.c 4 rfl (.c 7 rfl (.c 8 rfl (.c 17 rfl (.c 18 rfl (.c 19 rfl .n))))))))) ?_
     refine r_seq (r_sr (p_fa fa_31_0 rfl rfl (p_ldc tc_3 rfl (by rfl) rfl ?_)))
     refine p_neq rfl rfl rfl (o_keep (kp [0,2,3,4,7,8,17,18,19,36] rfl) (r_cond _ rfl (fun h5=>?_) (fun h5=>?_)))
     ·skip
      have hc0:(applyL wc (wantsB t.b n)).2.code≠0:=by simpa using h5
      rw[if_pos hc0] at hS
      have hs:=hS
      refine r_seq ?_
      refine r_plan (_) ([blk b2 [.int .i64 0,.int .i64 0,.int .i64 0,.int .i64 0,.int .i64 0,.int .i64 0] 38]) mo (kp [0,2,4,7,8,17,18,19] rfl) (SelB.ent) ?_
      refine yp 0 [] rfl rfl (by kernel_rfl) (pv_buildA zr_38 Tryz.underlying38 (.ofC tc_3) (.n rfl) rfl (.n)) (yp 1 [.k 8] rfl rfl (by kernel_rfl) (u_fa fa_31_0 rfl rfl rfl) (yr 2 [.o 1] rfl rfl (by kernel_rfl) (fun He=>u_ldc tc_3 rfl rfl rfl (by rfl)) ?_))
      refine qm_store (.ofA ta_38) (i:=3) [.k 2,.o 0] (by kernel_rfl) (by kernel_rfl) rfl rfl rfl (by kernel_rfl) (by kernel_rfl) ⟨_,.n rfl,rfl⟩ rfl rfl rfl rfl rfl rfl (Ins.whole rfl) ?_
      refine yp 4 [.o 2] rfl rfl (by kernel_rfl) (u_as rfl rfl rfl) ?_
      refine qm_n (by kernel_rfl) (by kernel_rfl) (by kernel_rfl) (by kernel_rfl) (kp [0,2,3,4,7,17,18,19] rfl) ?_
      refine r_retv hF rfl (.c (.a rfl ta_38 (.blk (SelB.ent) (Tk.all rfl)) rfl) (.c (.t rfl) .n)) ?_ ?_
      ·refine Ent.catI ?_;apply eI;repeat constructor
      ·rw[hs];rfl
     ·skip
      have hc0:¬ (applyL wc (wantsB t.b n)).2.code≠0:=by simpa using h5
      rw[if_neg hc0] at hS
      refine r_skip (r_region ?_)
      refine p_lda ta_38 rfl (by exact (Tk.all (by first|rfl|assumption|(simp only[List.drop_zero,List.length_map];assumption)|(simp[*];done)))) rfl ?_
      refine p_store (.ofA ta_38) rfl rfl rfl (by first|rfl|exact (by first|rfl|assumption|(simp only[List.drop_zero,List.length_map];assumption)|(simp[*];done))) (by first|rfl|exact (by first|rfl|simp[vI,Value.oneCell'])) (Ins.whole (by simp;omega)) ?_
      refine o_keep (kp [0,2,3,4,17,18,19] rfl) (r_end (r_region (p_add rfl rfl (by omega) rfl (p_mv rfl rfl (o_keep (kp [0,2,3,4,17,18,19] rfl) ?_)))))
      refine r_back_2 (i+1) ((applyL wc (wantsB t.b n)).1) ?_ ?_ (Keep.app (kp [19] rfl) (kp [0,2,3,4,17,18] rfl)) ?_
      ·exact⟨by omega,hal,hS⟩
      ·omega
      ·apply eI;repeat constructor
   ·skip
    refine cand_alloc zr_31 rfl rfl rfl rfl rfl rfl fun b8=>?_
    refine qm_two (i:=6) (j:=11) (by kernel_rfl) (by kernel_rfl) (by kernel_rfl) ?_ ?_
    ·skip
     refine cand_calln [.o 4,.o 5] rfl rfl rfl rfl rfl rfl cf_107 rfl (.c rfl (.c rfl .n)) ((broker_WantsN _ bb t.b hT.b n (wants_b hT.b)).on inferInstance _) fun z=>?_
     refine qm_rd z fun hrz=>?_
     refine qm_keep ?_
     refine yq 7 [.o 0,.o 6] rfl rfl (by kernel_rfl) (fun He=>rq_call cf_106 (.n rfl) rfl (.c rfl fR (.c rfl fR .n)) (fun hg=>plan_Apply _ _ z (wantsB t.b n) wc hrz.own (by have:=wantsB_le hT.b n;omega) hwc)) ?_
     refine yp 8 [.o 7] rfl rfl (by kernel_rfl) (u_mv rfl rfl rfl) (yp 9 [.o 8] rfl rfl (by kernel_rfl) (u_ext rfl rfl rfl rfl) (yp 10 [.o 8] rfl rfl (by kernel_rfl) (u_ext rfl rfl rfl rfl) ?_))
     refine qm_alloc zr_38 (i:=11) [] (by kernel_rfl) (by kernel_rfl) rfl rfl rfl rfl (by kernel_rfl) (by kernel_rfl) ⟨_,.n rfl,rfl⟩ rfl fun b7=>?_
     refine qm_store (.ofA ta_38) (i:=13) [.o 11,.o 9] (by kernel_rfl) (by kernel_rfl) rfl rfl rfl (by kernel_rfl) (by kernel_rfl) ⟨_,.n rfl,rfl⟩ rfl rfl rfl rfl (by first|rfl|exact (by first|rfl|assumption|(simp only[List.drop_zero,List.length_map];assumption)|(simp[*];done))) (by first|rfl|exact (by first|rfl|simp[vI,Value.oneCell'])) (Ins.whole (by simp;omega)) ?_
     refine qb_store (.ofA ta_31) (i:=14) [.o 12,.o 10] (by kernel_rfl) (by kernel_rfl) rfl rfl rfl (by kernel_rfl) (by kernel_rfl) (by kernel_rfl) ⟨_,.n rfl,rfl⟩ rfl rfl rfl rfl (by first|rfl|exact rfl) (by first|rfl|exact (by first|rfl|simp[vI,Value.oneCell'])) (Ins.whole (by first|rfl|(simp only[List.length_map,List.length_cons,List.length_nil];omega)|(simp[*];done)|(simp[*];rfl))) ?_
     refine qm_n (by kernel_rfl) (by kernel_rfl) (by kernel_rfl) (by kernel_rfl) (.c 0 rfl (.c 2 rfl (.c 3 rfl (.c 4 rfl (.c 7 rfl (.c 8 rfl (.c 17 rfl (.c 18 rfl (.c 19 rfl .n))))))))) ?_
     refine r_seq (r_sr (p_fa fa_31_0 rfl rfl (p_ldc tc_3 rfl (by rfl) rfl ?_)))
     refine p_neq rfl rfl rfl (o_keep (kp [0,2,3,4,7,8,17,18,19,36] rfl) (r_cond _ rfl (fun h6=>?_) (fun h6=>?_)))
     ·skip
      have hc0:(applyL wc (wantsB t.b n)).2.code≠0:=by simpa using h6
      rw[if_pos hc0] at hS
      have hs:=hS
      refine r_seq ?_
      refine r_plan (_) ([blk b2 [.int .i64 0,.int .i64 0,.int .i64 0,.int .i64 0,.int .i64 0,.int .i64 0] 38]) mo (kp [0,2,4,7,8,17,18,19] rfl) (SelB.ent) ?_
      refine yp 0 [] rfl rfl (by kernel_rfl) (pv_buildA zr_38 Tryz.underlying38 (.ofC tc_3) (.n rfl) rfl (.n)) (yp 1 [.k 8] rfl rfl (by kernel_rfl) (u_fa fa_31_0 rfl rfl rfl) (yr 2 [.o 1] rfl rfl (by kernel_rfl) (fun He=>u_ldc tc_3 rfl rfl rfl (by rfl)) ?_))
      refine qm_store (.ofA ta_38) (i:=3) [.k 2,.o 0] (by kernel_rfl) (by kernel_rfl) rfl rfl rfl (by kernel_rfl) (by kernel_rfl) ⟨_,.n rfl,rfl⟩ rfl rfl rfl rfl rfl rfl (Ins.whole rfl) ?_
      refine yp 4 [.o 2] rfl rfl (by kernel_rfl) (u_as rfl rfl rfl) ?_
      refine qm_n (by kernel_rfl) (by kernel_rfl) (by kernel_rfl) (by kernel_rfl) (kp [0,2,3,4,7,17,18,19] rfl) ?_
      refine r_retv hF rfl (.c (.a rfl ta_38 (.blk (SelB.ent) (Tk.all rfl)) rfl) (.c (.t rfl) .n)) ?_ ?_
      ·refine Ent.catI ?_;apply eI;repeat constructor
      ·rw[hs];rfl
     ·skip
      have hc0:¬ (applyL wc (wantsB t.b n)).2.code≠0:=by simpa using h6
      rw[if_neg hc0] at hS
      refine r_skip (r_region ?_)
      refine p_lda ta_38 rfl (by exact (Tk.all (by first|rfl|assumption|(simp only[List.drop_zero,List.length_map];assumption)|(simp[*];done)))) rfl ?_
      refine p_store (.ofA ta_38) rfl rfl rfl (by first|rfl|exact (by first|rfl|assumption|(simp only[List.drop_zero,List.length_map];assumption)|(simp[*];done))) (by first|rfl|exact (by first|rfl|simp[vI,Value.oneCell'])) (Ins.whole (by simp;omega)) ?_
      refine o_keep (kp [0,2,3,4,17,18,19] rfl) (r_end (r_region (p_add rfl rfl (by omega) rfl (p_mv rfl rfl (o_keep (kp [0,2,3,4,17,18,19] rfl) ?_)))))
      refine r_back_2 (i+1) ((applyL wc (wantsB t.b n)).1) ?_ ?_ (Keep.app (kp [19] rfl) (kp [0,2,3,4,17,18] rfl)) ?_
      ·exact⟨by omega,hal,hS⟩
      ·omega
      ·apply eI;repeat constructor
    ·skip
     refine cand_alloc zr_38 rfl rfl rfl rfl rfl rfl fun b7=>?_
     refine qm_calln (i:=6) [.o 4,.o 5] (by kernel_rfl) (by kernel_rfl) rfl rfl rfl rfl (by kernel_rfl) (by kernel_rfl) ⟨_,.n rfl,rfl⟩ cf_107 rfl (.c rfl (.c rfl .n)) (broker_WantsN _ bb t.b hT.b n (wants_b hT.b)) fun z=>?_
     refine qm_cat ?_
     refine qm_rd z fun hrz=>?_
     refine qm_keep ?_
     refine yq 7 [.o 0,.o 6] rfl rfl (by kernel_rfl) (fun He=>rq_call cf_106 (.n rfl) rfl (.c rfl fR (.c rfl fR .n)) (fun hg=>plan_Apply _ _ z (wantsB t.b n) wc hrz.own (by have:=wantsB_le hT.b n;omega) hwc)) ?_
     refine yp 8 [.o 7] rfl rfl (by kernel_rfl) (u_mv rfl rfl rfl) (yp 9 [.o 8] rfl rfl (by kernel_rfl) (u_ext rfl rfl rfl rfl) (yp 10 [.o 8] rfl rfl (by kernel_rfl) (u_ext rfl rfl rfl rfl) ?_))
     refine qm_store (.ofA ta_38) (i:=13) [.o 11,.o 9] (by kernel_rfl) (by kernel_rfl) rfl rfl rfl (by kernel_rfl) (by kernel_rfl) ⟨_,.n rfl,rfl⟩ rfl rfl rfl rfl (by first|rfl|exact (by first|rfl|assumption|(simp only[List.drop_zero,List.length_map];assumption)|(simp[*];done))) (by first|rfl|exact (by first|rfl|simp[vI,Value.oneCell'])) (Ins.whole (by simp;omega)) ?_
     refine qb_store (.ofA ta_31) (i:=14) [.o 12,.o 10] (by kernel_rfl) (by kernel_rfl) rfl rfl rfl (by kernel_rfl) (by kernel_rfl) (by kernel_rfl) ⟨_,.n rfl,rfl⟩ rfl rfl rfl rfl (by first|rfl|exact rfl) (by first|rfl|exact (by first|rfl|simp[vI,Value.oneCell'])) (Ins.whole (by first|rfl|(simp only[List.length_map,List.length_cons,List.length_nil];omega)|(simp[*];done)|(simp[*];rfl))) ?_
     refine qm_n (by kernel_rfl) (by kernel_rfl) (by kernel_rfl) (by kernel_rfl) (.c 0 rfl (.c 2 rfl (.c 3 rfl (.c 4 rfl (.c 7 rfl (.c 8 rfl (.c 17 rfl (.c 18 rfl (.c 19 rfl .n))))))))) ?_
     refine r_seq (r_sr (p_fa fa_31_0 rfl rfl (p_ldc tc_3 rfl (by rfl) rfl ?_)))
     refine p_neq rfl rfl rfl (o_keep (kp [0,2,3,4,7,8,17,18,19,36] rfl) (r_cond _ rfl (fun h7=>?_) (fun h7=>?_)))
     ·skip
      have hc0:(applyL wc (wantsB t.b n)).2.code≠0:=by simpa using h7
      rw[if_pos hc0] at hS
      have hs:=hS
      refine r_seq ?_
      refine r_plan (_) ([blk b2 [.int .i64 0,.int .i64 0,.int .i64 0,.int .i64 0,.int .i64 0,.int .i64 0] 38]) mo (kp [0,2,4,7,8,17,18,19] rfl) (SelB.ent) ?_
      refine yp 0 [] rfl rfl (by kernel_rfl) (pv_buildA zr_38 Tryz.underlying38 (.ofC tc_3) (.n rfl) rfl (.n)) (yp 1 [.k 8] rfl rfl (by kernel_rfl) (u_fa fa_31_0 rfl rfl rfl) (yr 2 [.o 1] rfl rfl (by kernel_rfl) (fun He=>u_ldc tc_3 rfl rfl rfl (by rfl)) ?_))
      refine qm_store (.ofA ta_38) (i:=3) [.k 2,.o 0] (by kernel_rfl) (by kernel_rfl) rfl rfl rfl (by kernel_rfl) (by kernel_rfl) ⟨_,.n rfl,rfl⟩ rfl rfl rfl rfl rfl rfl (Ins.whole rfl) ?_
      refine yp 4 [.o 2] rfl rfl (by kernel_rfl) (u_as rfl rfl rfl) ?_
      refine qm_n (by kernel_rfl) (by kernel_rfl) (by kernel_rfl) (by kernel_rfl) (kp [0,2,3,4,7,17,18,19] rfl) ?_
      refine r_retv hF rfl (.c (.a rfl ta_38 (.blk (SelB.ent) (Tk.all rfl)) rfl) (.c (.t rfl) .n)) ?_ ?_
      ·refine Ent.catI ?_;apply eI;repeat constructor
      ·rw[hs];rfl
     ·skip
      have hc0:¬ (applyL wc (wantsB t.b n)).2.code≠0:=by simpa using h7
      rw[if_neg hc0] at hS
      refine r_skip (r_region ?_)
      refine p_lda ta_38 rfl (by exact (Tk.all (by first|rfl|assumption|(simp only[List.drop_zero,List.length_map];assumption)|(simp[*];done)))) rfl ?_
      refine p_store (.ofA ta_38) rfl rfl rfl (by first|rfl|exact (by first|rfl|assumption|(simp only[List.drop_zero,List.length_map];assumption)|(simp[*];done))) (by first|rfl|exact (by first|rfl|simp[vI,Value.oneCell'])) (Ins.whole (by simp;omega)) ?_
      refine o_keep (kp [0,2,3,4,17,18,19] rfl) (r_end (r_region (p_add rfl rfl (by omega) rfl (p_mv rfl rfl (o_keep (kp [0,2,3,4,17,18,19] rfl) ?_)))))
      refine r_back_2 (i+1) ((applyL wc (wantsB t.b n)).1) ?_ ?_ (Keep.app (kp [19] rfl) (kp [0,2,3,4,17,18] rfl)) ?_
      ·exact⟨by omega,hal,hS⟩
      ·omega
      ·apply eI;repeat constructor
  ·skip
   have hj:t.b.order.length≤i:=by have:=of_decide_eq_false h1;omega
   rw[List.drop_eq_nil_of_le hj] at hS
   have hs:serialT t=(wc,0):=by rw[hS];rfl
   refine r_exit rfl (r_sr ?_)
   refine p_lda ta_38 rfl (by exact (Tk.all (by first|rfl|assumption|(simp only[List.drop_zero,List.length_map];assumption)|(simp[*];done)))) rfl ?_
   refine p_store (.ofA ta_38) rfl rfl rfl (by first|rfl|exact (by first|rfl|assumption|(simp only[List.drop_zero,List.length_map];assumption)|(simp[*];done))) (by first|rfl|exact (by first|rfl|simp[vI,Value.oneCell'])) (Ins.whole (by simp;omega)) ?_
   refine p_as rfl rfl (o_keep (kp [2,3] rfl) ?_)
   refine r_retv hF rfl (.c (.a rfl ta_38 (.blk (SelB.ent) (Tk.all rfl)) (by first|rfl|assumption|(simp only[List.drop_zero,List.length_map];assumption)|(simp[*];done))) (.c (.t rfl) .n)) ?_ ?_
   ·refine Ent.catI ?_;apply eI;repeat constructor
   ·rw[hs];rfl
def tnN (bb:Nat)(ws:List Int)(cs:List Nat)(pb:Nat):List Value:=[ptr bb,.int .i64 (ws.getD 0 0),.int .i64 (ws.getD 1 0),.int .i64 (ws.getD 2 0),.int .i64 (ws.getD 3 0),.int .i64 (ws.getD 4 0),.int .i64 (ws.getD 5 0)]++((cs.map ptr++List.replicate (3 - cs.length) (.pointer Option.none))++[ptr pb])
theorem tn_ins{bb pb c j:Nat}{ws:List Int}:∀ {cs:List Nat},cs.length<3→j=7+cs.length→Ins (tnN bb ws cs pb) j [ptr c] (tnN bb ws (cs++[c]) pb)
  | [],_,e=>by subst e;exact (by repeat constructor)
  | [a],_,e=>by subst e;exact (by repeat constructor)
  | [a,a'],_,e=>by subst e;exact (by repeat constructor)
  | _::_::_::_,h,_=>by simp at h;omega
theorem tn_insN{bb pb j:Nat}{ws:List Int}:∀ {cs:List Nat},cs.length<3→j=7+cs.length→Ins (tnN bb ws cs pb) j [.pointer Option.none] (tnN bb ws cs pb)
  | [],_,e=>by subst e;exact (by repeat constructor)
  | [a],_,e=>by subst e;exact (by repeat constructor)
  | [a,a'],_,e=>by subst e;exact (by repeat constructor)
  | _::_::_::_,h,_=>by simp at h;omega
theorem tn_get{bb pb c s:Nat}{ws:List Int}:∀ {cs:List Nat},cs.length<3→s=cs.length→(tnN bb ws (cs++[c]) pb)[7+s]?=some (ptr c)
  | [],_,e=>by subst e;rfl
  | [a],_,e=>by subst e;rfl
  | [a,a'],_,e=>by subst e;rfl
  | _::_::_::_,h,_=>by simp at h;omega
theorem tn_getN{bb pb s:Nat}{ws:List Int}:∀ {cs:List Nat},cs.length<3→s=cs.length→(tnN bb ws cs pb)[7+s]?=some (.pointer Option.none)
  | [],_,e=>by subst e;rfl
  | [a],_,e=>by subst e;rfl
  | [a,a'],_,e=>by subst e;rfl
  | _::_::_::_,h,_=>by simp at h;omega
theorem len_three{α:Type}:∀ {cs:List α},cs.length=3→∃ a b c,cs=[a,b,c]
  | [a,b,c],_=>⟨a,b,c,rfl⟩
theorem newT_none{ws:List Int}{s:Nat}(hs:s<3)(h:newS (s:Int) ws=none):newT ws=none:=by
  have hk:newK (s:Int) ws=none:=by unfold newK;rw[h];rfl
  unfold newT
  rcases lt3 hs with rfl|rfl|rfl
  · rw[show ((0:Nat):Int)=0 from rfl] at hk;rw[hk]
  · rw[show ((1:Nat):Int)=1 from rfl] at hk;rw[hk];cases newK 0 ws<;>rfl
  · rw[show ((2:Nat):Int)=2 from rfl] at hk;rw[hk];cases newK 0 ws<;>cases newK 1 ws<;>rfl
theorem newT_some{ws:List Int}{ks:List KeepS}(hl:ks.length=3)(h:∀ j:Nat,j<3→newK (j:Int) ws=ks[j]?):newT ws=some ⟨⟨[],[]⟩,ws,ks,[]⟩:=by
  obtain⟨a,b,c,rfl⟩:=len_three hl
  have h0:=h 0 (by omega);have h1:=h 1 (by omega);have h2:=h 2 (by omega)
  unfold newT
  rw[show newK 0 ws=some a from h0,show newK 1 ws=some b from h1,show newK 2 ws=some c from h2]
theorem newK_next{ws:List Int}{ks:List KeepS}{s:Nat}{k:KeepS}(hl:ks.length=s)(h:∀ j:Nat,j<s→newK (j:Int) ws=ks[j]?)(hk:newK (s:Int) ws=some k):∀ j:Nat,j<s+1→newK (j:Int) ws=(ks++[k])[j]?:=fun j hj=>by
  subst hl
  by_cases e:j=ks.length
  · subst e;rw[hk];simp
  · rw[List.getElem?_append_left (by omega)];exact h j (by omega)
theorem tn_fold{H R:List HP}{b bb pb:Nat}{w0 w1 w2 w3 w4 w5:Int}(h:Ent H (blk b [ptr bb,.int .i64 w0,.int .i64 w1,.int .i64 w2,.int .i64 w3,.int .i64 w4,.int .i64 w5,.pointer Option.none,.pointer Option.none,.pointer Option.none,ptr pb] 62::R)):Ent H (blk b (tnN bb [w0,w1,w2,w3,w4,w5] [] pb) 62::R):=h
def tVal:Option TownS→Nat→Value
  | some _,b=>ptr b
  | none,_=>.pointer Option.none
def tNewP:Option TownS→Nat→List HP
  | some t,b=>[townP b t]
  | none,_=>[]
theorem town_New (M:Amb)(ws:List Int)(h6:ws.length=6):FnE (α:=Nat) Tryz.prog M 11 [.agg (ws.map vI).toArray] [] (fun x=>tVal (newT ws) x) (fun x=>tNewP (newT ws) x):=by
 obtain⟨w0,w1,w2,w3,w4,w5,rfl⟩:=list6E h6
 refine fne_intro Tryz.func11 rfl Tryz.ntmps11 rfl fun R F hF=>?_
 show Run _ _ _ _ _ _ R
 refine r_sr (p_box rfl rfl rfl fun b1=>?_)
 refine p_as rfl rfl (o_keep (kp [1,2] rfl) (r_seq ?_))
 refine r_cut_3 (fun (b bb pb:Nat)=>[(3,true,ptr b)]) (kp [1,2] rfl) (fun (b bb pb:Nat)=>blk b (tnN bb [w0,w1,w2,w3,w4,w5] [] pb) 62::brokP bb brk0::manyP clerkP [] []::postP pb []::blk b1 ([w0,w1,w2,w3,w4,w5].map vI) 38::R) (fun (b bb pb:Nat)=>True) ?_ (fun b bb pb hI=>?_)
 ·skip
  refine r_plan _ [] mo (kp [1,2] rfl) Ent.rfl ?_
  refine yr 1 [.k 1] rfl rfl (by kernel_rfl) (fun He=>q_lda ta_38 (.n rfl) rfl rfl fR (Tk.all rfl)) ?_
  refine qm_calle (i:=0) [] (by kernel_rfl) (by kernel_rfl) rfl rfl rfl rfl (by kernel_rfl) (by kernel_rfl) ⟨_,.n rfl,rfl⟩ cf_19 rfl (.n) (broker_New _) fun bb=>?_
  refine qm_cat ?_
  refine qm_calle (i:=2) [] (by kernel_rfl) (by kernel_rfl) rfl rfl rfl rfl (by kernel_rfl) (by kernel_rfl) ⟨_,.n rfl,rfl⟩ cf_20 rfl (.n) (post_New _) fun pb=>?_
  refine qm_cat ?_
  refine yp 3 [.o 0,.o 1,.o 2] rfl rfl (by kernel_rfl) (pv_build zr_62 pl_62 (.n rfl) rfl (.c rfl fR rfl rfl rfl (by repeat constructor) (.c rfl fR rfl rfl rfl (by repeat constructor) (.c rfl fR rfl rfl rfl (by repeat constructor) .n)))) ?_
  refine qm_box (i:=4) [.o 3] (by kernel_rfl) (by kernel_rfl) rfl rfl rfl rfl (by kernel_rfl) (by kernel_rfl) ⟨_,.n rfl,rfl⟩ rfl rfl rfl fun b9=>?_
  refine yp 5 [.o 4] rfl rfl (by kernel_rfl) (u_as rfl rfl rfl) ?_
  refine qm_n (by kernel_rfl) (by kernel_rfl) (by kernel_rfl) (by kernel_rfl) (kp [1,2,3] rfl) ?_
  refine r_join_3 (b9) (bb) (pb) ?_ (Keep.app (kp [3] rfl) (kp [1,2] rfl)) ?_
  ·trivial
  ·refine tn_fold ?_;refine Ent.c (SelB.ent) ?_;refine Ent.c (SelX.ent) ?_;refine Ent.tr ?_ many_nil;apply eI;repeat constructor
 refine r_seq (r_sr (p_mv rfl rfl (o_keep (kp [1,2,3,10] rfl) (r_block ?_))))
 refine r_loop_3 (fun (s:Nat) (cs:List Nat) (ks:List KeepS)=>[(10,true,.int .i64 (s:Int))]) (kp [1,2,3] rfl) (fun (s:Nat) (cs:List Nat) (ks:List KeepS)=>blk b (tnN bb [w0,w1,w2,w3,w4,w5] cs pb) 62::brokP bb brk0::manyP clerkP cs ks::postP pb []::blk b1 ([w0,w1,w2,w3,w4,w5].map vI) 38::R) (fun (s:Nat) (cs:List Nat) (ks:List KeepS)=>s≤3∧cs.length=s∧ks.length=s∧∀ j:Nat,j<s→newK (j:Int) [w0,w1,w2,w3,w4,w5]=ks[j]?) (fun (s:Nat) (cs:List Nat) (ks:List KeepS)=>3 - s) (0) ([]) ([]) ?_ (kp [10] rfl) ?_ (fun s cs ks hI=>?_)
 ·exact⟨Nat.zero_le _,rfl,rfl,fun j hj=>by omega⟩
 ·apply eI;repeat constructor
 ·skip
  obtain⟨hs0,hcs,hks,hnk⟩:=hI
  refine r_sr (p_lss rfl rfl rfl (o_keep (kp [1,2,3,10,11] rfl) (r_seq (r_cond _ rfl (fun h1=>?_) (fun h1=>?_)))))
  ·skip
   have hs3:s<3:=by have:=of_decide_eq_true h1;omega
   refine r_skip (r_seq (r_block (r_sr (p_mv rfl rfl (p_as rfl rfl (o_keep (kp [1,2,3,4,10] rfl) (r_seq ?_)))))))
   rcases hn:newS (s:Int) [w0,w1,w2,w3,w4,w5] with _|s0
   ·skip
    refine r_plan _ [] mo (kp [1,2,3,4,10] rfl) Ent.rfl ?_
    refine yp 0 [.k 3] rfl rfl (by kernel_rfl) (u_mv rfl rfl rfl) (yp 1 [.k 4] rfl rfl (by kernel_rfl) (u_mv rfl rfl rfl) (yp 2 [.k 4] rfl rfl (by kernel_rfl) (u_mv rfl rfl rfl) (yr 3 [.k 1] rfl rfl (by kernel_rfl) (fun He=>q_lda ta_38 (.n rfl) rfl rfl fR (Tk.all rfl)) ?_)))
    refine yp 5 [.o 0] rfl rfl (by kernel_rfl) (u_nil rfl rfl rfl) (yp 6 [.o 5] rfl rfl (by kernel_rfl) (u_fa fa_62_2 rfl rfl rfl) ?_)
    refine qm_callc (i:=4) [.o 2,.o 3] (by kernel_rfl) (by kernel_rfl) rfl rfl rfl rfl (by kernel_rfl) (by kernel_rfl) ⟨_,.n rfl,rfl⟩ cf_21 rfl (.c rfl (.c rfl .n)) (clerk_New_none _ s [w0,w1,w2,w3,w4,w5] rfl hn) ?_
    refine yp 7 [.o 6,.o 1] rfl rfl (by kernel_rfl) (pv_aidx (i:=s) Tryz.underlying60 (.ofC tc_59) (fun hg=>⟨rfl,hs3⟩) (.n rfl) rfl rfl rfl fS) ?_
    refine qb_store (.ofC tc_59) (i:=8) [.o 7,.o 4] (by kernel_rfl) (by kernel_rfl) rfl rfl rfl (by kernel_rfl) (by kernel_rfl) (by kernel_rfl) ⟨_,.n rfl,rfl⟩ rfl rfl rfl rfl rfl rfl (tn_insN (by omega) (by omega)) ?_
    refine qm_n (by kernel_rfl) (by kernel_rfl) (by kernel_rfl) (by kernel_rfl) (kp [1,2,3,4,10] rfl) ?_
    refine r_sr (p_mv rfl rfl (p_mv rfl rfl (p_nil rfl rfl (p_fa fa_62_2 rfl rfl (l_op (x_p (pv_aidx (i:=s) Tryz.underlying60 (.ofC tc_59) (fun hg=>⟨rfl,hs3⟩) (.n rfl) rfl rfl rfl fS) rfl rfl (l_op (x_r (q_ldci (i:=7+s) tc_59 (.n rfl) rfl rfl fR (by omega) (tn_getN (by omega) (by omega))) rfl rfl ?_))))))))
    refine l_op (x_p (pv_peqn Tryz.underlying59 (.n rfl) rfl rfl rfl fS) rfl rfl (o_keep (kp [1,2,3,10,27] rfl) (r_cond _ rfl (fun h2=>?_) (fun h2=>?_))))
    ·skip
     refine r_sr (p_as rfl rfl (o_keep (kp [1,2,3,10] rfl) ?_))
     refine r_rete (0) hF rfl (.c (.t rfl) .n) ?_ ?_
     ·show Ent _ (tNewP _ _++R);rw[newT_none hs3 hn];show Ent _ R;apply eI;repeat constructor
     ·rw[newT_none hs3 hn];rfl
    ·simp at h2
   ·skip
    refine r_plan _ [] mo (kp [1,2,3,4,10] rfl) Ent.rfl ?_
    refine yp 0 [.k 3] rfl rfl (by kernel_rfl) (u_mv rfl rfl rfl) (yp 1 [.k 4] rfl rfl (by kernel_rfl) (u_mv rfl rfl rfl) (yp 2 [.k 4] rfl rfl (by kernel_rfl) (u_mv rfl rfl rfl) (yr 3 [.k 1] rfl rfl (by kernel_rfl) (fun He=>q_lda ta_38 (.n rfl) rfl rfl fR (Tk.all rfl)) ?_)))
    refine yp 5 [.o 0] rfl rfl (by kernel_rfl) (u_nil rfl rfl rfl) (yp 6 [.o 5] rfl rfl (by kernel_rfl) (u_fa fa_62_2 rfl rfl rfl) ?_)
    refine qm_calle (i:=4) [.o 2,.o 3] (by kernel_rfl) (by kernel_rfl) rfl rfl rfl rfl (by kernel_rfl) (by kernel_rfl) ⟨_,.n rfl,rfl⟩ cf_21 rfl (.c rfl (.c rfl .n)) (clerk_New_some _ s [w0,w1,w2,w3,w4,w5] rfl hn) fun cb=>?_
    refine qm_cat ?_
    refine yp 7 [.o 6,.o 1] rfl rfl (by kernel_rfl) (pv_aidx (i:=s) Tryz.underlying60 (.ofC tc_59) (fun hg=>⟨rfl,hs3⟩) (.n rfl) rfl rfl rfl fS) ?_
    refine qb_store (.ofC tc_59) (i:=8) [.o 7,.o 4] (by kernel_rfl) (by kernel_rfl) rfl rfl rfl (by kernel_rfl) (by kernel_rfl) (by kernel_rfl) ⟨_,.n rfl,rfl⟩ rfl rfl rfl rfl rfl rfl (tn_ins (by omega) (by omega)) ?_
    refine qm_n (by kernel_rfl) (by kernel_rfl) (by kernel_rfl) (by kernel_rfl) (kp [1,2,3,4,10] rfl) ?_
    refine r_sr (p_mv rfl rfl (p_mv rfl rfl (p_nil rfl rfl (p_fa fa_62_2 rfl rfl (l_op (x_p (pv_aidx (i:=s) Tryz.underlying60 (.ofC tc_59) (fun hg=>⟨rfl,hs3⟩) (.n rfl) rfl rfl rfl fS) rfl rfl (l_op (x_r (q_ldci (i:=7+s) tc_59 (.n rfl) rfl rfl fR (by omega) (tn_get (by omega) (by omega))) rfl rfl ?_))))))))
    refine l_op (x_p (pv_peqn Tryz.underlying59 (.n rfl) rfl rfl rfl fS) rfl rfl (o_keep (kp [1,2,3,10,27] rfl) (r_cond _ rfl (fun h3=>?_) (fun h3=>?_))))
    ·simp at h3
    ·skip
     refine r_skip (r_end (r_region (p_add rfl rfl (by omega) rfl (p_mv rfl rfl (o_keep (kp [1,2,3,10] rfl) ?_)))))
     refine r_back_3 (s+1) (cs++[cb]) (ks++[⟨s,[w0,w1,w2,w3,w4,w5],s0,[]⟩]) ?_ ?_ (Keep.app (kp [10] rfl) (kp [1,2,3] rfl)) ?_
     ·exact⟨by omega,by simp;omega,by simp;omega,newK_next hks hnk (by unfold newK;rw[hn];rfl)⟩
     ·omega
     ·refine Ent.c (SelB.ent) ?_;refine Ent.c (SelX.ent) ?_;refine Ent.tr ?_ (many_add (hcs.trans hks.symm));apply eI;repeat constructor
  ·skip
   have hs3:s=3:=by have:=of_decide_eq_false h1;omega
   obtain⟨c0,c1,c2,rfl⟩:=len_three (hcs.trans hs3)
   have hT:=newT_some (ws:=[w0,w1,w2,w3,w4,w5]) (hks.trans hs3) (by rw[← hs3];exact hnk)
   refine r_exit rfl (r_sr (p_mv rfl rfl (p_as rfl rfl (o_keep (kp [2] rfl) ?_))))
   refine r_rete (b) hF rfl (.c (.t rfl) .n) ?_ ?_
   ·show Ent _ (tNewP _ _++R);rw[hT];show Ent _ (townP b ⟨brk0,[w0,w1,w2,w3,w4,w5],ks,[]⟩::R);refine Ent.tr (townP_close (b:=b) (t:=⟨brk0,[w0,w1,w2,w3,w4,w5],ks,[]⟩) bb c0 c1 c2 pb rfl) ?_;apply eI;repeat constructor
   ·rw[hT];rfl
theorem town_New_some (M:Amb)(ws:List Int)(h6:ws.length=6){t:TownS}(h:newT ws=some t):FnE (α:=Nat) Tryz.prog M 11 [.agg (ws.map vI).toArray] [] (fun x=>ptr x) (fun x=>[townP x t]):=fun R w ho=>
  (town_New M ws h6 R w ho).mono fun _ _ ⟨v,H',e,⟨x,h1,h2⟩,ho'⟩=>⟨v,H',e,⟨x,by rw[h1,h];rfl,by rw[h2,h];rfl⟩,ho'⟩
theorem FnC.town{P:Program}{M:Amb}{f:FuncId}{vs:List Value}{ret:Value}{b:Nat}{t:TownS}(h:∀ bb c0 c1 c2 pb,FnC P M f vs ret (tnL b t bb c0 c1 c2 pb) (tnL b t bb c0 c1 c2 pb)):FnC P M f vs ret [townP b t] [townP b t]:=fun R w ho=>by
  obtain⟨bb,c0,c1,c2,pb,ho'⟩:=townP_open ho
  refine (h bb c0 c1 c2 pb R w ho').mono fun _ _ ⟨v,H',e,⟨h1,h2⟩,ho2⟩=>⟨v,_,e,⟨h1,rfl⟩,?_⟩
  subst h2
  have ho3:Own M (blk b (tnC bb t.ws c0 c1 c2 pb) 62::brokP bb t.b::manyP clerkP [c0,c1,c2] t.ks::postP pb t.post::R) _:=ho2
  exact ho3.ent (townP_close (b:=b) (t:=t) bb c0 c1 c2 pb rfl)
theorem town_World (M:Amb)(b:Nat)(t:TownS)(hT:TInv t):FnC Tryz.prog M 60 [ptr b] (.agg ((worldT t).map vI).toArray) [townP b t] [townP b t]:=FnC.town fun bb c0 c1 c2 pb=>town_World_o M b t bb c0 c1 c2 pb hT
theorem town_Serial (M:Amb)(b:Nat)(t:TownS)(hT:TInv t):FnC Tryz.prog M 62 [ptr b] (.tuple #[.agg ((serialT t).1.map vI).toArray,.int .i64 (serialT t).2]) [townP b t] [townP b t]:=FnC.town fun bb c0 c1 c2 pb=>town_Serial_o M b t bb c0 c1 c2 pb hT
def hw:List Int:=[50,50,50,50,50,50]
def tn0:TownS:=⟨⟨[],[]⟩,hw,[⟨0,hw,⟨0,⟨50,0,0⟩,⟨50,0,0⟩,[],[]⟩,[]⟩,⟨1,hw,⟨1,⟨50,0,0⟩,⟨50,0,0⟩,[],[]⟩,[]⟩,⟨2,hw,⟨2,⟨50,0,0⟩,⟨50,0,0⟩,[],[]⟩,[]⟩],[]⟩
theorem tn0_new:newT hw=some tn0:=rfl
theorem town_New_b (M:Amb):FnE (α:=Nat) Tryz.prog M 11 [.agg (hw.map vI).toArray] [] (fun x=>ptr x) (fun x=>[townP x tn0]):=town_New_some M hw rfl tn0_new
section opening2
variable{P:Program}{F:Exit→Act→World→Prop}{N:Nat}{M:Amb}{K:List KI}{env:Env}{ops:Array Oper}{rest:List Oper}{b:Nat}{t:TownS}{R:List HP}
variable{E0:Env}{Hq He:List HP}{p:Plan}{eff:List Nat}
end opening2
end Go.Proofs.YtmakdilmibjpbaaGreatDoor
