/- The walks of PlanW: written by a program of ours (gen.py) over the engine. What plans ask, in plain Lean. No program in sight. -/
import Derived.Test.YtmakdilmibjpbaaGreatDoorWants
import Derived.Test.YtmakdilmibjpbaaGreatDoorFacts
import Derived.Test.YtmakdilmibjpbaaGreatDoorTwo
import Derived.Test.YtmakdilmibjpbaaGreatDoorCount
namespace Go.Proofs.YtmakdilmibjpbaaGreatDoor
open Go Go.RowKit
set_option linter.unusedVariables false
set_option linter.unusedSimpArgs false
set_option maxRecDepth 20000
theorem plan_Shop (M:Amb)(H:List HP)(c:Int):FnV Tryz.prog M H 113 [.int .i64 c] (.int .i64 (shopOf c)):=by
 refine fn_intro Tryz.func113 rfl Tryz.ntmps113 rfl fun F hF=>?_
 refine r_sr (p_as rfl rfl (o_keep (kp [0,2] rfl) (r_seq (r_sr (p_mv rfl rfl (p_lss rfl rfl rfl (p_mv rfl rfl ?_)))))))
 refine l_op (x_p (pv_mv (.s rfl rfl rfl) rfl rfl gA) rfl rfl ?_)
 refine l_op (x_p (pv_geq (.s rfl rfl rfl) rfl rfl rfl gB) rfl rfl ?_)
 refine l_op (x_p (pv_or (.n rfl) rfl rfl rfl (fun _=>⟨rfl,fun hc=>by first|rfl|(rw[hc];rfl)|simp_all⟩)) rfl rfl ?_)
 refine o_keep (kp [0,2,8] rfl) (r_cond _ rfl (fun h1=>?_) (fun h1=>?_))
 ·try simp only[bq1,bq2,bq3,bq4,bq5,bq6,bq7,bq8] at h1
  refine r_sr (p_as rfl rfl (o_keep (kp [0,2] rfl) ?_))
  refine r_retv hF rfl (.c (.t rfl) .n) ?_ ?_
  ·apply eI;repeat constructor
  ·exact int_eq (by unfold shopOf;rw[if_pos (by omega)])
 ·try simp only[bq1,bq2,bq3,bq4,bq5,bq6,bq7,bq8] at h1
  have hc:=h1
  refine r_skip (r_sr (p_mv rfl rfl ?_))
  refine l_op (x_p (pv_quo (fun _=>by first|omega|(rw[Int.tdiv_eq_ediv_of_nonneg (by omega)];omega)) (fun _=>by first|omega|(rw[Int.tdiv_eq_ediv_of_nonneg (by omega)];omega)) (.n rfl) rfl rfl rfl fS) rfl rfl ?_)
  refine p_as rfl rfl (o_keep (kp [2] rfl) ?_)
  refine r_retv hF rfl (.c (.t rfl) .n) ?_ ?_
  ·apply eI;repeat constructor
  ·exact int_eq (by rw[shopOf_ok (by omega) (by omega)];exact Int.tdiv_eq_ediv_of_nonneg (by omega))
theorem ref_ShopOf (M:Amb)(H:List HP)(c:Int):FnV Tryz.prog M H 79 [.int .i64 c] (.int .i64 (shopOf c)):=by
 refine fn_intro Tryz.func79 rfl Tryz.ntmps79 rfl fun F hF=>?_
 refine r_sr (p_as rfl rfl (o_keep (kp [0,2] rfl) (r_seq (r_sr (p_as rfl rfl (o_keep (kp [0,2,3] rfl) (r_block ?_)))))))
 refine r_loop_1 (fun (i:Nat)=>[(3,true,.int .i64 (i:Int))]) (kp [0,2] rfl) (fun (i:Nat)=>H) (fun (i:Nat)=>i≤3∧¬ (0≤c∧c<2*i)) (fun (i:Nat)=>3 - i) (0) ?_ (kp [3] rfl) ?_ (fun i hI=>?_)
 ·omega
 ·apply eI;repeat constructor
 ·skip
  obtain⟨h3,hI⟩:=hI
  refine r_seq (r_sr (p_mv rfl rfl (p_lss rfl rfl rfl (o_keep (kp [0,2,3,6] rfl) (r_cond _ rfl (fun h1=>?_) (fun h1=>?_))))))
  ·try simp only[bq1,bq2,bq3,bq4,bq5,bq6,bq7,bq8] at h1
   refine r_skip (r_seq (r_block (r_sr (p_as rfl rfl (o_keep (kp [0,2,3,4] rfl) (r_block ?_))))))
   refine r_loop_1 (fun (j:Nat)=>[(4,true,.int .i64 (j:Int))]) (kp [0,2,3] rfl) (fun (j:Nat)=>H) (fun (j:Nat)=>j≤2∧¬ (0≤c∧c<2*i+j)) (fun (j:Nat)=>2 - j) (0) ?_ (kp [4] rfl) ?_ (fun j hI=>?_)
   ·omega
   ·apply eI;repeat constructor
   ·skip
    obtain⟨h4,hJ⟩:=hI
    refine r_seq (r_sr (p_mv rfl rfl (p_lss rfl rfl rfl (o_keep (kp [0,2,3,4,10] rfl) (r_cond _ rfl (fun h2=>?_) (fun h2=>?_))))))
    ·try simp only[bq1,bq2,bq3,bq4,bq5,bq6,bq7,bq8] at h2
     refine r_skip (r_seq (r_block (r_sr (p_mv rfl rfl (p_mv rfl rfl (p_mul rfl rfl (by omega) rfl (p_mv rfl rfl ?_)))))))
     refine p_add rfl rfl (by omega) rfl (p_eql rfl rfl rfl (o_keep (kp [0,2,3,4,18] rfl) (r_cond _ rfl (fun h3=>?_) (fun h3=>?_))))
     ·try simp only[bq1,bq2,bq3,bq4,bq5,bq6,bq7,bq8] at h3
      refine r_sr (p_mv rfl rfl (p_as rfl rfl (o_keep (kp [0,2,3,4] rfl) ?_)))
      refine r_retv hF rfl (.c (.t rfl) .n) ?_ ?_
      ·apply eI;repeat constructor
      ·exact int_eq (by rw[shopOf_ok (by omega) (by omega)];omega)
     ·try simp only[bq1,bq2,bq3,bq4,bq5,bq6,bq7,bq8] at h3
      refine r_skip (r_end (r_region (p_mv rfl rfl (p_add rfl rfl (by omega) rfl (p_as rfl rfl (o_keep (kp [0,2,3,4] rfl) ?_))))))
      refine r_back_1 (j+1) ?_ ?_ (Keep.app (kp [4] rfl) (kp [0,2,3] rfl)) ?_
      ·omega
      ·omega
      ·apply eI;repeat constructor
    ·try simp only[bq1,bq2,bq3,bq4,bq5,bq6,bq7,bq8] at h2
     refine r_exit rfl (r_end (r_region (p_mv rfl rfl (p_add rfl rfl (by omega) rfl (p_as rfl rfl (o_keep (kp [0,2,3] rfl) ?_))))))
     refine r_back_1 (i+1) ?_ ?_ (Keep.app (kp [3] rfl) (kp [0,2] rfl)) ?_
     ·omega
     ·omega
     ·apply eI;repeat constructor
  ·try simp only[bq1,bq2,bq3,bq4,bq5,bq6,bq7,bq8] at h1
   refine r_exit rfl (r_sr (p_as rfl rfl (o_keep (kp [2] rfl) ?_)))
   refine r_retv hF rfl (.c (.t rfl) .n) ?_ ?_
   ·apply eI;repeat constructor
   ·exact int_eq (by unfold shopOf;rw[if_pos (by omega)])
theorem plan_Want (M:Amb)(H:List HP)(w:Want):FnV Tryz.prog M H 158 [.agg (rW w).toArray] (.int .i64 (wantF w)):=by
 refine fn_intro Tryz.func158 rfl Tryz.ntmps158 rfl fun F hF=>?_
 refine r_sr (p_box rfl rfl rfl fun b1=>?_)
 refine p_as rfl rfl (o_keep (kp [1,2] rfl) (r_seq (r_sr (p_fa fa_93_0 rfl rfl (p_ldc tc_3 rfl (by rfl) rfl ?_)))))
 refine p_callv cf_113 (.c rfl .n) rfl (plan_Shop _ _ _) ?_
 refine p_lss rfl rfl rfl (o_keep (kp [1,2,6] rfl) (r_cond _ rfl (fun h1=>?_) (fun h1=>?_)))
 ·try simp only[bq1,bq2,bq3,bq4,bq5,bq6,bq7,bq8] at h1
  refine r_sr (p_as rfl rfl (o_keep (kp [1,2] rfl) ?_))
  refine r_retv hF rfl (.c (.t rfl) .n) ?_ ?_
  ·apply eI;repeat constructor
  ·exact int_eq (by unfold wantF;rw[if_pos (by assumption)])
 ·try simp only[bq1,bq2,bq3,bq4,bq5,bq6,bq7,bq8] at h1
  refine r_skip (r_sr (p_fa fa_93_1 rfl rfl (p_ldc tc_3 rfl (by rfl) rfl ?_)))
  refine p_callv cf_173 (.c rfl .n) rfl (count_Delta _ _ _) ?_
  refine p_as rfl rfl (o_keep (kp [2] rfl) ?_)
  refine r_retv hF rfl (.c (.t rfl) .n) ?_ ?_
  ·apply eI;repeat constructor
  ·exact int_eq (by unfold wantF;rw[if_neg (by assumption)])
theorem ref_WantFault (M:Amb)(H:List HP)(w:Want):FnV Tryz.prog M H 145 [.agg (rW w).toArray] (.int .i64 (wantF w)):=by
 refine fn_intro Tryz.func145 rfl Tryz.ntmps145 rfl fun F hF=>?_
 refine r_sr (p_box rfl rfl rfl fun b1=>?_)
 refine p_as rfl rfl (o_keep (kp [1,2] rfl) (r_seq (r_sr (p_fa fa_93_0 rfl rfl (p_ldc tc_3 rfl (by rfl) rfl ?_)))))
 refine p_callv cf_79 (.c rfl .n) rfl (ref_ShopOf _ _ _) ?_
 refine p_lss rfl rfl rfl (o_keep (kp [1,2,6] rfl) (r_cond _ rfl (fun h1=>?_) (fun h1=>?_)))
 ·try simp only[bq1,bq2,bq3,bq4,bq5,bq6,bq7,bq8] at h1
  refine r_sr (p_as rfl rfl (o_keep (kp [1,2] rfl) ?_))
  refine r_retv hF rfl (.c (.t rfl) .n) ?_ ?_
  ·apply eI;repeat constructor
  ·exact int_eq (by unfold wantF;rw[if_pos (by assumption)])
 ·try simp only[bq1,bq2,bq3,bq4,bq5,bq6,bq7,bq8] at h1
  refine r_skip (r_sr (p_fa fa_93_1 rfl rfl (p_ldc tc_3 rfl (by rfl) rfl ?_)))
  refine p_callv cf_165 (.c rfl .n) rfl (ref_DeltaFault _ _ _) ?_
  refine p_as rfl rfl (o_keep (kp [2] rfl) ?_)
  refine r_retv hF rfl (.c (.t rfl) .n) ?_ ?_
  ·apply eI;repeat constructor
  ·exact int_eq (by unfold wantF;rw[if_neg (by assumption)])
theorem ref_F (M:Amb)(H:List HP)(a b:Int):FnV Tryz.prog M H 17 [.int .i64 a,.int .i64 b] (.agg #[.int .i64 a,.int .i64 b]):=by
 refine fn_intro Tryz.func17 rfl Tryz.ntmps17 rfl fun F hF=>?_
 refine r_sr (p_alloc zr_31 rfl fun b4=>?_)
 refine o_keep (kp [0,1,4] rfl) (r_sr (p_mv rfl rfl (p_mv rfl rfl ?_)))
 refine p_build zr_31 pl_31 (.c rfl fR rfl rfl rfl (by repeat constructor) (.c rfl fR rfl rfl rfl (by repeat constructor) .n)) rfl ?_
 refine p_store (.ofA ta_31) rfl rfl rfl rfl rfl (by repeat constructor) ?_
 refine o_keep (kp [4] rfl) ?_
 refine r_retv hF rfl (.c (.a rfl ta_31 (.blk (SelB.ent) (.s (.s .z))) rfl) .n) ?_ ?_
 ·apply eI;repeat constructor
 ·rfl
theorem ref_In (M:Amb)(H:List HP)(v:Value)(l:List Int)(n:Int)(hv:Rd M H v 1 (l.map rI))(hb:l.length≤100000):FnV Tryz.prog M H 78 [v,.int .i64 n] (.bool (l.contains n)):=by
 refine fn_intro Tryz.func78 rfl Tryz.ntmps78 rfl fun F hF=>?_
 refine r_sr (p_as rfl rfl (o_keep (kp [0,1,4] rfl) (r_seq (r_sr (p_as rfl rfl (o_keep (kp [0,1,4,5] rfl) (r_block ?_)))))))
 refine r_loop_1 (fun (i:Nat)=>[(5,true,.int .i64 (i:Int))]) (kp [0,1,4] rfl) (fun (i:Nat)=>H) (fun (i:Nat)=>i≤l.length∧n∉l.take i) (fun (i:Nat)=>l.length - i) (0) ?_ (kp [5] rfl) ?_ (fun i hI=>?_)
 ·exact⟨Nat.zero_le _,by simp⟩
 ·apply eI;repeat constructor
 ·skip
  obtain⟨hil,hI⟩:=hI
  refine r_seq (r_sr (p_mv rfl rfl (p_mv rfl rfl (l_op (x_p (pv_lens hv.len ⟨_,Tryz.underlying65⟩ (.n rfl) rfl rfl rfl rfl fR) rfl rfl (p_lss rfl rfl rfl (o_keep (kp [0,1,4,5,9] rfl) (r_cond _ rfl (fun h1=>?_) (fun h1=>?_)))))))))
  ·skip
   have hi:i<l.length:=by have:=of_decide_eq_true h1;omega
   obtain⟨x,h1⟩:=getlt hi
   refine r_skip (r_seq (r_block (r_sr (p_mv rfl rfl (p_mv rfl rfl (p_idx Tryz.underlying65 (.ofC tc_3) hv rfl (mapget h1) rfl rfl rfl (p_ldat 0 tc_3 (Rd.ent hv (eJ (by repeat constructor))) (mapget h1) rfl rfl rfl rfl ?_)))))))
   refine p_mv rfl rfl (p_eql rfl rfl rfl (o_keep (kp [0,1,4,5,17] rfl) (r_cond _ rfl (fun h2=>?_) (fun h2=>?_))))
   ·skip
    have hx:=of_decide_eq_true h2
    refine r_sr (p_as rfl rfl (o_keep (kp [0,1,4,5] rfl) ?_))
    refine r_retv hF rfl (.c (.t rfl) .n) ?_ ?_
    ·apply eI;repeat constructor
    ·exact bool_eq (by rw[List.contains_iff_mem.2];rw[← hx];exact List.mem_of_getElem? h1)
   ·skip
    have hx:=of_decide_eq_false h2
    refine r_skip (r_end (r_region (p_mv rfl rfl (p_add rfl rfl (by omega) rfl (p_as rfl rfl (o_keep (kp [0,1,4,5] rfl) ?_))))))
    refine r_back_1 (i+1) ?_ ?_ (Keep.app (kp [5] rfl) (kp [0,1,4] rfl)) ?_
    ·exact⟨by omega,not_in_step hI h1 hx⟩
    ·omega
    ·apply eI;repeat constructor
  ·skip
   have hi:l.length≤i:=by have:=of_decide_eq_false h1;omega
   refine r_exit rfl (r_sr (p_as rfl rfl (o_keep (kp [4] rfl) ?_)))
   refine r_retv hF rfl (.c (.t rfl) .n) ?_ ?_
   ·apply eI;repeat constructor
   ·exact bool_eq (by symm;rw[Bool.eq_false_iff];intro hc;rw[List.take_of_length_le hi] at hI;exact hI (List.contains_iff_mem.1 hc))
theorem plan_Check (M:Amb)(H:List HP)(v:Value)(l:List Want)(hv:Rd M H v 2 (l.map rW))(hb:l.length≤100000):FnV Tryz.prog M H 133 [v] (.agg (rF (checkL l)).toArray):=by
 refine fn_intro Tryz.func133 rfl Tryz.ntmps133 rfl fun F hF=>?_
 refine r_sr (p_alloc zr_31 rfl fun b2=>?_)
 refine o_keep (kp [0,2] rfl) (r_seq (r_block (r_sr (p_mv rfl rfl (l_op (x_p (pv_lens hv.len ⟨_,Tryz.underlying89⟩ (.n rfl) rfl rfl rfl rfl fR) rfl rfl (p_eql rfl rfl rfl (p_as rfl rfl ?_))))))))
 refine o_keep (kp [0,2,8] rfl) (r_cond _ rfl (fun h1=>?_) (fun h1=>?_))
 ·try simp only[bq1,bq2,bq3,bq4,bq5,bq6,bq7,bq8] at h1
  have hc:checkL l=⟨2,-1⟩:=by unfold checkL;rw[if_pos (by omega)]
  refine r_sr ?_
  refine p_build zr_31 pl_31 (.c rfl fR rfl rfl rfl (by repeat constructor) (.c rfl fR rfl rfl rfl (by repeat constructor) .n)) rfl ?_
  refine p_store (.ofA ta_31) rfl rfl rfl rfl rfl (by repeat constructor) ?_
  refine o_keep (kp [0,2] rfl) ?_
  refine r_retv hF rfl (.c (.a rfl ta_31 (.blk (SelB.ent) (.s (.s .z))) rfl) .n) ?_ ?_
  ·apply eI;repeat constructor
  ·rw[hc];rfl
 ·try simp only[bq1,bq2,bq3,bq4,bq5,bq6,bq7,bq8] at h1
  refine r_sr (p_mv rfl rfl (l_op (x_p (pv_lens hv.len ⟨_,Tryz.underlying89⟩ (.n rfl) rfl rfl rfl rfl fR) rfl rfl (p_gtr rfl rfl rfl (p_as rfl rfl (o_keep (kp [0,2,13] rfl) (r_cond _ rfl (fun h2=>?_) (fun h2=>?_))))))))
  ·try simp only[bq1,bq2,bq3,bq4,bq5,bq6,bq7,bq8] at h2
   have hc:checkL l=⟨3,-1⟩:=by unfold checkL;rw[if_neg (by omega),if_pos (by omega)]
   refine r_sr ?_
   refine p_build zr_31 pl_31 (.c rfl fR rfl rfl rfl (by repeat constructor) (.c rfl fR rfl rfl rfl (by repeat constructor) .n)) rfl ?_
   refine p_store (.ofA ta_31) rfl rfl rfl rfl rfl (by repeat constructor) ?_
   refine o_keep (kp [0,2] rfl) ?_
   refine r_retv hF rfl (.c (.a rfl ta_31 (.blk (SelB.ent) (.s (.s .z))) rfl) .n) ?_ ?_
   ·apply eI;repeat constructor
   ·rw[hc];rfl
  ·try simp only[bq1,bq2,bq3,bq4,bq5,bq6,bq7,bq8] at h2
   have hc0:checkL l=scanW [] l:=by unfold checkL;rw[if_neg (by omega),if_neg (by omega)]
   refine r_skip (r_end (r_seq (r_sr (p_mv rfl rfl (l_op (x_p (pv_lens hv.len ⟨_,Tryz.underlying89⟩ (.n rfl) rfl rfl rfl rfl fR) rfl rfl (p_mv rfl rfl (o_keep (kp [0,2,18,19,20] rfl) ?_))))))))
   refine r_block ?_
   refine r_loop_1 (fun (i:Nat)=>[(20,true,.int .i64 (i:Int))]) (kp [0,2,18,19] rfl) (fun (i:Nat)=>blk b2 [.int .i64 0,.int .i64 0] 31::H) (fun (i:Nat)=>i≤l.length∧scanW [] l=scanW (l.take i) (l.drop i)) (fun (i:Nat)=>l.length - i) (0) ?_ (kp [20] rfl) ?_ (fun i hI=>?_)
   ·exact⟨Nat.zero_le _,by simp⟩
   ·apply eI;repeat constructor
   ·skip
    obtain⟨hil,hI⟩:=hI
    refine r_sr (p_lss rfl rfl rfl (o_keep (kp [0,2,18,19,20,21] rfl) (r_seq (r_cond _ rfl (fun h3=>?_) (fun h3=>?_)))))
    ·try simp only[bq1,bq2,bq3,bq4,bq5,bq6,bq7,bq8] at h3
     obtain⟨w,hw⟩:=getlt (l:=l) (i:=i) (by omega)
     refine r_skip (r_seq (r_block (r_sr (p_mv rfl rfl (p_idx Tryz.underlying89 (.ofA ta_93) hv rfl (mapget hw) rfl rfl rfl ?_)))))
     refine p_ldats 0 ta_93 (Rd.ent hv (eJ (by repeat constructor))) (mapget hw) rfl rfl (.s (.s .z)) rfl ?_
     refine p_alloc zr_93 rfl fun b4=>?_
     refine p_as rfl rfl ?_
     refine p_store (.ofA ta_93) rfl rfl rfl rfl rfl (by repeat constructor) ?_
     refine o_keep (kp [0,2,3,4,18,19,20] rfl) (r_seq (r_sr ?_))
     refine p_lda ta_93 rfl (by exact (.s (.s .z))) rfl ?_
     refine p_callv cf_158 (.c rfl .n) rfl (plan_Want _ _ _) ?_
     refine p_as rfl rfl (o_keep (kp [0,2,3,4,5,18,19,20] rfl) (r_sr (p_mv rfl rfl (p_neq rfl rfl rfl (o_keep (kp [0,2,3,4,5,18,19,20,28] rfl) (r_cond _ rfl (fun h4=>?_) (fun h4=>?_)))))))
     ·try simp only[bq1,bq2,bq3,bq4,bq5,bq6,bq7,bq8] at h4
      have hc:checkL l=⟨wantF w,i⟩:=by rw[hc0,hI];exact scan_want hw (by omega) h4
      refine r_sr (p_mv rfl rfl (p_mv rfl rfl ?_))
      refine p_build zr_31 pl_31 (.c rfl fR rfl rfl rfl (by repeat constructor) (.c rfl fR rfl rfl rfl (by repeat constructor) .n)) rfl ?_
      refine p_store (.ofA ta_31) rfl rfl rfl rfl rfl (by repeat constructor) ?_
      refine o_keep (kp [0,2,3,4,18,19,20] rfl) ?_
      refine r_retv hF rfl (.c (.a rfl ta_31 (.blk (SelB.ent) (.s (.s .z))) rfl) .n) ?_ ?_
      ·apply eI;repeat constructor
      ·rw[hc];rfl
     ·try simp only[bq1,bq2,bq3,bq4,bq5,bq6,bq7,bq8] at h4
      have hw0:wantF w=0:=by omega
      have hti:=take_len (l:=l) (i:=i) (by omega)
      have hrs:Rd M H (resl v 2 0 i) 2 ((l.take i).map rW):=(hv.resl (Nat.zero_le _) (show i≤(l.map rW).length by rw[List.length_map];omega)).to (by simp)
      refine r_skip (r_sr (p_mv rfl rfl (p_mv rfl rfl ?_)))
      refine l_op (x_p (pv_slc (l:=0) (h:=i) Tryz.underlying89 (.ofA ta_93) hv (Nat.zero_le _) (by rw[List.length_map];omega) rfl rfl rfl (.inl ⟨rfl,rfl,rfl⟩) (.inr ⟨_,_,rfl,rfl,rfl⟩)) rfl rfl ?_)
      refine l_op (x_p (pv_lens (hrs.len) ⟨_,Tryz.underlying89⟩ (.n rfl) rfl rfl rfl rfl fR) rfl rfl (p_mv rfl rfl (o_keep (kp [0,2,3,4,18,19,20,34,35,36] rfl) (r_block ?_))))
      refine r_loop_1 (fun (j:Nat)=>[(36,true,.int .i64 (j:Int))]) (kp [0,2,3,4,18,19,20,34,35] rfl) (fun (j:Nat)=>blk b4 (rW w) 93::blk b2 [.int .i64 0,.int .i64 0] 31::H) (fun (j:Nat)=>j≤(l.take i).length∧∀ (q:Nat) (y:Want),q<j→(l.take i)[q]?=some y→y.ctr≠w.ctr) (fun (j:Nat)=>(l.take i).length - j) (0) ?_ (kp [36] rfl) ?_ (fun j hI=>?_)
      ·exact⟨Nat.zero_le _,fun q y hq=>by omega⟩
      ·apply eI;repeat constructor
      ·skip
       obtain⟨hjl,hJ⟩:=hI
       refine r_sr (p_lss rfl rfl rfl (o_keep (kp [0,2,3,4,18,19,20,34,35,36,37] rfl) (r_seq (r_cond _ rfl (fun h5=>?_) (fun h5=>?_)))))
       ·try simp only[bq1,bq2,bq3,bq4,bq5,bq6,bq7,bq8] at h5
        have hj:j<(l.take i).length:=by omega
        obtain⟨x,hx⟩:=getlt hj
        refine r_skip (r_seq (r_block (r_sr (p_idx Tryz.underlying89 (.ofA ta_93) hrs rfl (mapget hx) rfl rfl rfl ?_))))
        refine p_ldats 0 ta_93 (Rd.ent hrs (eJ (by repeat constructor))) (mapget hx) rfl rfl (.s (.s .z)) rfl ?_
        refine p_alloc zr_93 rfl fun b7=>?_
        refine p_store (.ofA ta_93) rfl rfl rfl rfl rfl (by repeat constructor) ?_
        refine o_keep (kp [0,2,3,4,7,18,19,20,34,35,36] rfl) (r_sr (p_fa fa_93_0 rfl rfl (p_ldc tc_3 rfl (by rfl) rfl ?_)))
        refine p_fa fa_93_0 rfl rfl (p_ldc tc_3 rfl (by rfl) rfl ?_)
        refine p_eql rfl rfl rfl (o_keep (kp [0,2,3,4,18,19,20,34,35,36,44] rfl) (r_cond _ rfl (fun h6=>?_) (fun h6=>?_)))
        ·try simp only[bq1,bq2,bq3,bq4,bq5,bq6,bq7,bq8] at h6
         have hc:checkL l=⟨4,i⟩:=by rw[hc0,hI];exact scan_twice hw (by omega) hw0 (List.mem_of_getElem? hx) h6
         refine r_sr (p_mv rfl rfl ?_)
         refine p_build zr_31 pl_31 (.c rfl fR rfl rfl rfl (by repeat constructor) (.c rfl fR rfl rfl rfl (by repeat constructor) .n)) rfl ?_
         refine p_store (.ofA ta_31) rfl rfl rfl rfl rfl (by repeat constructor) ?_
         refine o_keep (kp [0,2,3,4,18,19,20,34,35,36] rfl) ?_
         refine r_retv hF rfl (.c (.a rfl ta_31 (.blk (SelB.ent) (.s (.s .z))) rfl) .n) ?_ ?_
         ·apply eI;repeat constructor
         ·rw[hc];rfl
        ·try simp only[bq1,bq2,bq3,bq4,bq5,bq6,bq7,bq8] at h6
         refine r_skip (r_end (r_region (p_add rfl rfl (by omega) rfl (p_mv rfl rfl (o_keep (kp [0,2,3,4,18,19,20,34,35,36] rfl) ?_)))))
         refine r_back_1 (j+1) ?_ ?_ (Keep.app (kp [36] rfl) (kp [0,2,3,4,18,19,20,34,35] rfl)) ?_
         ·exact⟨by omega,scan_step hJ hx (by assumption)⟩
         ·omega
         ·apply eI;repeat constructor
       ·try simp only[bq1,bq2,bq3,bq4,bq5,bq6,bq7,bq8] at h5
        have hj:(l.take i).length≤j:=by omega
        refine r_exit rfl (r_end (r_region (p_add rfl rfl (by omega) rfl (p_mv rfl rfl (o_keep (kp [0,2,18,19,20] rfl) ?_)))))
        refine r_back_1 (i+1) ?_ ?_ (Keep.app (kp [20] rfl) (kp [0,2,18,19] rfl)) ?_
        ·exact⟨by omega,hI.trans (scan_next hw hw0 hJ hj)⟩
        ·omega
        ·apply eI;repeat constructor
    ·try simp only[bq1,bq2,bq3,bq4,bq5,bq6,bq7,bq8] at h3
     have hc:checkL l=⟨0,0⟩:=by rw[hc0,hI];exact scan_end (by omega)
     refine r_exit rfl (r_sr ?_)
     refine p_build zr_31 pl_31 (.n) rfl ?_
     refine p_store (.ofA ta_31) rfl rfl rfl rfl rfl (by repeat constructor) ?_
     refine o_keep (kp [2] rfl) ?_
     refine r_retv hF rfl (.c (.a rfl ta_31 (.blk (SelB.ent) (.s (.s .z))) rfl) .n) ?_ ?_
     ·apply eI;repeat constructor
     ·rw[hc];rfl
theorem ref_WantsFault (M:Amb)(H:List HP)(v:Value)(l:List Want)(hv:Rd M H v 2 (l.map rW))(hb:l.length≤100000):FnV Tryz.prog M H 115 [v] (.agg (rF (checkL l)).toArray):=by
 refine fn_intro Tryz.func115 rfl Tryz.ntmps115 rfl fun F hF=>?_
 refine r_sr (p_alloc zr_31 rfl fun b2=>?_)
 refine o_keep (kp [0,2] rfl) (r_seq (r_sr (p_mv rfl rfl (l_op (x_p (pv_lens hv.len ⟨_,Tryz.underlying89⟩ (.n rfl) rfl rfl rfl rfl fR) rfl rfl (p_eql rfl rfl rfl (o_keep (kp [0,2,8] rfl) (r_cond _ rfl (fun h1=>?_) (fun h1=>?_)))))))))
 ·try simp only[bq1,bq2,bq3,bq4,bq5,bq6,bq7,bq8] at h1
  have hc:checkL l=⟨2,-1⟩:=by unfold checkL;rw[if_pos (by omega)]
  refine r_sr ?_
  refine p_callv cf_17 (.c rfl (.c rfl .n)) rfl (ref_F _ _ _ _) ?_
  refine p_store (.ofA ta_31) rfl rfl rfl rfl rfl (by repeat constructor) ?_
  refine o_keep (kp [0,2] rfl) ?_
  refine r_retv hF rfl (.c (.a rfl ta_31 (.blk (SelB.ent) (.s (.s .z))) rfl) .n) ?_ ?_
  ·apply eI;repeat constructor
  ·rw[hc];rfl
 ·try simp only[bq1,bq2,bq3,bq4,bq5,bq6,bq7,bq8] at h1
  refine r_skip (r_seq (r_sr (p_mv rfl rfl (l_op (x_p (pv_lens hv.len ⟨_,Tryz.underlying89⟩ (.n rfl) rfl rfl rfl rfl fR) rfl rfl (p_gtr rfl rfl rfl (o_keep (kp [0,2,12] rfl) (r_cond _ rfl (fun h2=>?_) (fun h2=>?_)))))))))
  ·try simp only[bq1,bq2,bq3,bq4,bq5,bq6,bq7,bq8] at h2
   have hc:checkL l=⟨3,-1⟩:=by unfold checkL;rw[if_neg (by omega),if_pos (by omega)]
   refine r_sr ?_
   refine p_callv cf_17 (.c rfl (.c rfl .n)) rfl (ref_F _ _ _ _) ?_
   refine p_store (.ofA ta_31) rfl rfl rfl rfl rfl (by repeat constructor) ?_
   refine o_keep (kp [0,2] rfl) ?_
   refine r_retv hF rfl (.c (.a rfl ta_31 (.blk (SelB.ent) (.s (.s .z))) rfl) .n) ?_ ?_
   ·apply eI;repeat constructor
   ·rw[hc];rfl
  ·try simp only[bq1,bq2,bq3,bq4,bq5,bq6,bq7,bq8] at h2
   have hc0:checkL l=scanW [] l:=by unfold checkL;rw[if_neg (by omega),if_neg (by omega)]
   refine r_skip (r_seq (r_sr (p_as rfl rfl (o_keep (kp [0,2,3] rfl) (r_block ?_)))))
   refine r_loop_1 (fun (i:Nat)=>[(3,true,.int .i64 (i:Int))]) (kp [0,2] rfl) (fun (i:Nat)=>blk b2 [.int .i64 0,.int .i64 0] 31::H) (fun (i:Nat)=>i≤l.length∧scanW [] l=scanW (l.take i) (l.drop i)) (fun (i:Nat)=>l.length - i) (0) ?_ (kp [3] rfl) ?_ (fun i hI=>?_)
   ·exact⟨Nat.zero_le _,by simp⟩
   ·apply eI;repeat constructor
   ·skip
    obtain⟨hil,hI⟩:=hI
    refine r_seq (r_sr (p_mv rfl rfl (p_mv rfl rfl (l_op (x_p (pv_lens hv.len ⟨_,Tryz.underlying89⟩ (.n rfl) rfl rfl rfl rfl fR) rfl rfl (p_lss rfl rfl rfl (o_keep (kp [0,2,3,17] rfl) (r_cond _ rfl (fun h3=>?_) (fun h3=>?_)))))))))
    ·try simp only[bq1,bq2,bq3,bq4,bq5,bq6,bq7,bq8] at h3
     obtain⟨w,hw⟩:=getlt (l:=l) (i:=i) (by omega)
     refine r_skip (r_seq (r_block (r_seq (r_sr (p_mv rfl rfl (p_mv rfl rfl (p_idx Tryz.underlying89 (.ofA ta_93) hv rfl (mapget hw) rfl rfl rfl ?_)))))))
     refine p_ldats 0 ta_93 (Rd.ent hv (eJ (by repeat constructor))) (mapget hw) rfl rfl (.s (.s .z)) rfl ?_
     refine p_callv cf_145 (.c rfl .n) rfl (ref_WantFault _ _ _) ?_
     refine p_as rfl rfl (o_keep (kp [0,2,3,4] rfl) (r_sr (p_mv rfl rfl (p_neq rfl rfl rfl (o_keep (kp [0,2,3,4,26] rfl) (r_cond _ rfl (fun h4=>?_) (fun h4=>?_)))))))
     ·try simp only[bq1,bq2,bq3,bq4,bq5,bq6,bq7,bq8] at h4
      have hc:checkL l=⟨wantF w,i⟩:=by rw[hc0,hI];exact scan_want hw (by omega) h4
      refine r_sr (p_mv rfl rfl (p_mv rfl rfl ?_))
      refine p_callv cf_17 (.c rfl (.c rfl .n)) rfl (ref_F _ _ _ _) ?_
      refine p_store (.ofA ta_31) rfl rfl rfl rfl rfl (by repeat constructor) ?_
      refine o_keep (kp [0,2,3] rfl) ?_
      refine r_retv hF rfl (.c (.a rfl ta_31 (.blk (SelB.ent) (.s (.s .z))) rfl) .n) ?_ ?_
      ·apply eI;repeat constructor
      ·rw[hc];rfl
     ·try simp only[bq1,bq2,bq3,bq4,bq5,bq6,bq7,bq8] at h4
      have hw0:wantF w=0:=by omega
      have hti:=take_len (l:=l) (i:=i) (by omega)
      refine r_skip (r_sr (p_as rfl rfl (o_keep (kp [0,2,3,5] rfl) (r_block ?_))))
      refine r_loop_1 (fun (j:Nat)=>[(5,true,.int .i64 (j:Int))]) (kp [0,2,3] rfl) (fun (j:Nat)=>blk b2 [.int .i64 0,.int .i64 0] 31::H) (fun (j:Nat)=>j≤(l.take i).length∧∀ (q:Nat) (y:Want),q<j→(l.take i)[q]?=some y→y.ctr≠w.ctr) (fun (j:Nat)=>(l.take i).length - j) (0) ?_ (kp [5] rfl) ?_ (fun j hI=>?_)
      ·exact⟨Nat.zero_le _,fun q y hq=>by omega⟩
      ·apply eI;repeat constructor
      ·skip
       obtain⟨hjl,hJ⟩:=hI
       refine r_seq (r_sr (p_mv rfl rfl (p_mv rfl rfl (p_lss rfl rfl rfl (o_keep (kp [0,2,3,5,32] rfl) (r_cond _ rfl (fun h5=>?_) (fun h5=>?_)))))))
       ·try simp only[bq1,bq2,bq3,bq4,bq5,bq6,bq7,bq8] at h5
        have hj:j<(l.take i).length:=by omega
        obtain⟨x,hxt⟩:=getlt hj
        have hx:l[j]?=some x:=by rw[List.getElem?_take_of_lt (by omega)] at hxt;exact hxt
        refine r_skip (r_seq (r_block (r_seq ?_)))
        refine r_plan _ [] mo (kp [0,2,3,5] rfl) Ent.rfl ?_
        refine yp 0 [.k 0] rfl rfl (by kernel_rfl) (u_mv rfl rfl rfl) (yp 1 [.k 5] rfl rfl (by kernel_rfl) (u_mv rfl rfl rfl) (yp 2 [.o 0,.o 1] rfl rfl (by kernel_rfl) (pv_idx Tryz.underlying89 (.ofA ta_93) hv (fun hg=>⟨rfl,(mapget hx)⟩) (.n rfl) rfl rfl rfl fS) ?_))
        refine yp 3 [.o 2] rfl rfl (by kernel_rfl) (pv_faat fa_93_0 (fun hg=>Rd.sh hv (mapget hx)) (.n rfl) rfl rfl fR) ?_
        refine yr 4 [.o 3] rfl rfl (by kernel_rfl) (fun He=>rv_ldat (j:=0) tc_3 (Rd.ent hv (eJ (by repeat constructor))) (fun hg=>(mapget hx)) (.n rfl) rfl rfl fR rfl fR) ?_
        refine yp 5 [.k 0] rfl rfl (by kernel_rfl) (u_mv rfl rfl rfl) (yp 6 [.k 3] rfl rfl (by kernel_rfl) (u_mv rfl rfl rfl) (yp 7 [.o 5,.o 6] rfl rfl (by kernel_rfl) (pv_idx Tryz.underlying89 (.ofA ta_93) hv (fun hg=>⟨rfl,(mapget hw)⟩) (.n rfl) rfl rfl rfl fS) ?_))
        refine yp 8 [.o 7] rfl rfl (by kernel_rfl) (pv_faat fa_93_0 (fun hg=>Rd.sh hv (mapget hw)) (.n rfl) rfl rfl fR) ?_
        refine yr 9 [.o 8] rfl rfl (by kernel_rfl) (fun He=>rv_ldat (j:=0) tc_3 (Rd.ent hv (eJ (by repeat constructor))) (fun hg=>(mapget hw)) (.n rfl) rfl rfl fR rfl fR) ?_
        refine yp 10 [.o 4,.o 9] rfl rfl (by kernel_rfl) (pv_eql (.n rfl) rfl rfl rfl fS) ?_
        refine qm_n (by kernel_rfl) (by kernel_rfl) (by kernel_rfl) (by kernel_rfl) (kp [0,2,3,5,45] rfl) ?_
        refine r_cond _ rfl (fun h6=>?_) (fun h6=>?_)
        ·try simp only[bq1,bq2,bq3,bq4,bq5,bq6,bq7,bq8] at h6
         have hc:checkL l=⟨4,i⟩:=by rw[hc0,hI];exact scan_twice hw (by omega) hw0 (List.mem_of_getElem? hxt) h6
         refine r_sr (p_mv rfl rfl ?_)
         refine p_callv cf_17 (.c rfl (.c rfl .n)) rfl (ref_F _ _ _ _) ?_
         refine p_store (.ofA ta_31) rfl rfl rfl rfl rfl (by repeat constructor) ?_
         refine o_keep (kp [0,2,3,5] rfl) ?_
         refine r_retv hF rfl (.c (.a rfl ta_31 (.blk (SelB.ent) (.s (.s .z))) rfl) .n) ?_ ?_
         ·apply eI;repeat constructor
         ·rw[hc];rfl
        ·try simp only[bq1,bq2,bq3,bq4,bq5,bq6,bq7,bq8] at h6
         refine r_skip (r_end (r_region (p_mv rfl rfl (p_add rfl rfl (by omega) rfl (p_as rfl rfl (o_keep (kp [0,2,3,5] rfl) ?_))))))
         refine r_back_1 (j+1) ?_ ?_ (Keep.app (kp [5] rfl) (kp [0,2,3] rfl)) ?_
         ·exact⟨by omega,scan_step hJ hxt (by assumption)⟩
         ·omega
         ·apply eI;repeat constructor
       ·try simp only[bq1,bq2,bq3,bq4,bq5,bq6,bq7,bq8] at h5
        have hj:(l.take i).length≤j:=by omega
        refine r_exit rfl (r_end (r_region (p_mv rfl rfl (p_add rfl rfl (by omega) rfl (p_as rfl rfl (o_keep (kp [0,2,3] rfl) ?_))))))
        refine r_back_1 (i+1) ?_ ?_ (Keep.app (kp [3] rfl) (kp [0,2] rfl)) ?_
        ·exact⟨by omega,hI.trans (scan_next hw hw0 hJ hj)⟩
        ·omega
        ·apply eI;repeat constructor
    ·try simp only[bq1,bq2,bq3,bq4,bq5,bq6,bq7,bq8] at h3
     have hc:checkL l=⟨0,0⟩:=by rw[hc0,hI];exact scan_end (by omega)
     refine r_exit rfl (r_sr ?_)
     refine p_build zr_31 pl_31 (.n) rfl ?_
     refine p_store (.ofA ta_31) rfl rfl rfl rfl rfl (by repeat constructor) ?_
     refine o_keep (kp [2] rfl) ?_
     refine r_retv hF rfl (.c (.a rfl ta_31 (.blk (SelB.ent) (.s (.s .z))) rfl) .n) ?_ ?_
     ·apply eI;repeat constructor
     ·rw[hc];rfl
theorem plan_Shops (M:Amb)(A:List HP)(v:Value)(l:List Want)(hv:Rd M A v 2 (l.map rW))(hb:l.length≤100000):FnE (α:=Value) Tryz.prog M 111 [v] A (fun x=>x) (fun x=>sl x 3 1 ((shopsL l).map rI)::A):=by
 refine fne_intro Tryz.func111 rfl Tryz.ntmps111 rfl fun R F hF=>?_
 refine r_sr (p_as rfl rfl (o_keep (kp [0,2] rfl) (r_sr (p_as rfl rfl (o_keep (kp [0,2,3] rfl) (r_seq (r_sr ?_)))))))
 refine p_mv rfl rfl (o_keep (kp [0,2,3,7] rfl) (r_block ?_))
 refine r_loop_2 (fun (s:Nat) (ov:Value)=>[(7,true,.int .i64 (s:Int)),(3,true,ov)]) (kp [0,2] rfl) (fun (s:Nat) (ov:Value)=>sl ov 3 1 ((shopsTo l s).map rI)::(A++R)) (fun (s:Nat) (ov:Value)=>s≤3) (fun (s:Nat) (ov:Value)=>3 - s) (0) (.slice Option.none 0 0) ?_ (kp [7,3] rfl) ?_ (fun s ov hI=>?_)
 ·omega
 ·apply eI;repeat constructor
 ·skip
  refine r_sr (p_lss rfl rfl rfl (o_keep (kp [0,2,3,7,8] rfl) (r_seq (r_cond _ rfl (fun h1=>?_) (fun h1=>?_)))))
  ·try simp only[bq1,bq2,bq3,bq4,bq5,bq6,bq7,bq8] at h1
   refine r_skip (r_seq (r_block (r_sr (p_mv rfl rfl (p_as rfl rfl (o_keep (kp [0,2,3,4,7] rfl) (r_sr ?_)))))))
   refine p_mv rfl rfl (l_op (x_p (pv_lens hv.len ⟨_,Tryz.underlying89⟩ (.n rfl) rfl rfl rfl rfl fR) rfl rfl (p_mv rfl rfl (o_keep (kp [0,2,3,4,7,10,11,12] rfl) ?_))))
   refine r_cut_1 (fun (ov1:Value)=>[(3,true,ov1)]) (kp [0,2,7] rfl) (fun (ov1:Value)=>sl ov1 3 1 ((shopsTo l (s+1)).map rI)::(A++R)) (fun (ov1:Value)=>True) ?_ (fun ov1 hI=>?_)
   ·skip
    refine r_block ?_
    refine r_loop_1 (fun (j:Nat)=>[(12,true,.int .i64 (j:Int))]) (kp [0,2,3,4,7,10,11] rfl) (fun (j:Nat)=>sl ov 3 1 ((shopsTo l s).map rI)::(A++R)) (fun (j:Nat)=>j≤l.length∧∀ (q:Nat) (y:Want),q<j→l[q]?=some y→shopOf y.ctr≠s) (fun (j:Nat)=>l.length - j) (0) ?_ (kp [12] rfl) ?_ (fun j hI=>?_)
    ·exact⟨Nat.zero_le _,fun q y hq=>by omega⟩
    ·apply eI;repeat constructor
    ·skip
     obtain⟨hjl,hJ⟩:=hI
     refine r_sr (p_lss rfl rfl rfl (o_keep (kp [0,2,3,4,7,10,11,12,13] rfl) (r_seq (r_cond _ rfl (fun h2=>?_) (fun h2=>?_)))))
     ·try simp only[bq1,bq2,bq3,bq4,bq5,bq6,bq7,bq8] at h2
      obtain⟨w,hw⟩:=getlt (l:=l) (i:=j) (by omega)
      refine r_skip (r_seq (r_block (r_sr (p_idx Tryz.underlying89 (.ofA ta_93) hv rfl (mapget hw) rfl rfl rfl ?_))))
      refine p_ldats 0 ta_93 (Rd.ent hv (eJ (by repeat constructor))) (mapget hw) rfl rfl (.s (.s .z)) rfl ?_
      refine p_alloc zr_93 rfl fun b6=>?_
      refine p_store (.ofA ta_93) rfl rfl rfl rfl rfl (by repeat constructor) ?_
      refine o_keep (kp [0,2,3,4,6,7,10,11,12] rfl) (r_sr (p_fa fa_93_0 rfl rfl (p_ldc tc_3 rfl (by rfl) rfl ?_)))
      refine p_callv cf_113 (.c rfl .n) rfl (plan_Shop _ _ _) ?_
      refine p_mv rfl rfl (p_eql rfl rfl rfl (o_keep (kp [0,2,3,4,7,10,11,12,20] rfl) (r_cond _ rfl (fun h3=>?_) (fun h3=>?_))))
      ·try simp only[bq1,bq2,bq3,bq4,bq5,bq6,bq7,bq8] at h3
       refine r_sr (p_mv rfl rfl (p_mv rfl rfl ?_))
       refine p_bslice1 Tryz.underlying65 (.ofC tc_3) zr_3 rfl rfl rfl rfl rfl rfl rfl fun b23=>?_
       refine p_append Tryz.underlying65 el_3 rfl rfl rfl rfl rfl (Rd.blit rfl rfl) (by simp;have:=shopsTo_len (l:=l) (s:=s);omega) fun v24=>?_
       refine o_rd v24 fun hr24=>?_
       refine p_as rfl rfl (o_keep (kp [0,2,3,4,7,10,11,12] rfl) (r_exit rfl ?_))
       refine r_join_1 (_) ?_ (Keep.app (kp [3] rfl) (kp [0,2,7] rfl)) ?_
       ·trivial
       ·rw[shops_hit (s:=s) hw (by assumption),List.map_append];apply eI;repeat constructor
      ·try simp only[bq1,bq2,bq3,bq4,bq5,bq6,bq7,bq8] at h3
       refine r_skip (r_end (r_region (p_add rfl rfl (by omega) rfl (p_mv rfl rfl (o_keep (kp [0,2,3,4,7,10,11,12] rfl) ?_)))))
       refine r_back_1 (j+1) ?_ ?_ (Keep.app (kp [12] rfl) (kp [0,2,3,4,7,10,11] rfl)) ?_
       ·exact⟨by omega,miss_in hJ hw (by assumption)⟩
       ·omega
       ·apply eI;repeat constructor
     ·try simp only[bq1,bq2,bq3,bq4,bq5,bq6,bq7,bq8] at h2
      have hj:l.length≤j:=by omega
      refine r_exit rfl ?_
      refine r_join_1 (ov) ?_ (Keep.app (kp [3] rfl) (kp [0,2,7] rfl)) ?_
      ·trivial
      ·rw[shops_miss (s:=s) hJ hj];apply eI;repeat constructor
   refine r_end (r_region (p_add rfl rfl (by omega) rfl (p_mv rfl rfl (o_keep (kp [0,2,3,7] rfl) ?_))))
   refine r_back_2 (s+1) (ov1) ?_ ?_ (Keep.app (kp [7,3] rfl) (kp [0,2] rfl)) ?_
   ·omega
   ·omega
   ·apply eI;repeat constructor
  ·try simp only[bq1,bq2,bq3,bq4,bq5,bq6,bq7,bq8] at h1
   refine r_exit rfl (r_sr (p_mv rfl rfl (p_as rfl rfl (o_keep (kp [2] rfl) ?_))))
   refine r_rete (ov) hF rfl (.c (.t rfl) .n) ?_ ?_
   ·have hs3:s=3:=(by omega);subst hs3;exact Ent.rfl
   ·rfl
theorem ref_ShopsOf (M:Amb)(A:List HP)(v:Value)(l:List Want)(hv:Rd M A v 2 (l.map rW))(hb:l.length≤100000):FnE (α:=Value) Tryz.prog M 80 [v] A (fun x=>x) (fun x=>sl x 3 1 ((shopsL l).map rI)::A):=by
 refine fne_intro Tryz.func80 rfl Tryz.ntmps80 rfl fun R F hF=>?_
 refine r_sr (p_as rfl rfl (o_keep (kp [0,2] rfl) (r_sr (p_as rfl rfl (o_keep (kp [0,2,3] rfl) (r_seq (r_sr ?_)))))))
 refine p_as rfl rfl (o_keep (kp [0,2,3,4] rfl) (r_block ?_))
 refine r_loop_2 (fun (s:Nat) (ov:Value)=>[(4,true,.int .i64 (s:Int)),(3,true,ov)]) (kp [0,2] rfl) (fun (s:Nat) (ov:Value)=>sl ov 3 1 ((shopsTo l s).map rI)::(A++R)) (fun (s:Nat) (ov:Value)=>s≤3) (fun (s:Nat) (ov:Value)=>3 - s) (0) (.slice Option.none 0 0) ?_ (kp [4,3] rfl) ?_ (fun s ov hI=>?_)
 ·omega
 ·apply eI;repeat constructor
 ·skip
  refine r_seq (r_sr (p_mv rfl rfl (p_lss rfl rfl rfl (o_keep (kp [0,2,3,4,8] rfl) (r_cond _ rfl (fun h1=>?_) (fun h1=>?_))))))
  ·try simp only[bq1,bq2,bq3,bq4,bq5,bq6,bq7,bq8] at h1
   refine r_skip (r_seq (r_block (r_sr (p_as rfl rfl (o_keep (kp [0,2,3,4,5] rfl) (r_seq (r_sr ?_)))))))
   refine p_as rfl rfl (o_keep (kp [0,2,3,4,5,6] rfl) (r_block ?_))
   refine r_loop_2 (fun (j:Nat) (hit:Bool)=>[(6,true,.int .i64 (j:Int)),(5,true,.bool hit)]) (kp [0,2,3,4] rfl) (fun (j:Nat) (hit:Bool)=>sl ov 3 1 ((shopsTo l s).map rI)::(A++R)) (fun (j:Nat) (hit:Bool)=>j≤l.length∧hit=(l.take j).any fun w=>decide (shopOf w.ctr=s)) (fun (j:Nat) (hit:Bool)=>l.length - j) (0) (false) ?_ (kp [6,5] rfl) ?_ (fun j hit hI=>?_)
   ·exact⟨Nat.zero_le _,by simp⟩
   ·apply eI;repeat constructor
   ·skip
    obtain⟨hjl,hJ⟩:=hI
    refine r_seq (r_sr (p_mv rfl rfl (p_mv rfl rfl (l_op (x_p (pv_lens hv.len ⟨_,Tryz.underlying89⟩ (.n rfl) rfl rfl rfl rfl fR) rfl rfl (p_lss rfl rfl rfl (o_keep (kp [0,2,3,4,5,6,14] rfl) (r_cond _ rfl (fun h2=>?_) (fun h2=>?_)))))))))
    ·try simp only[bq1,bq2,bq3,bq4,bq5,bq6,bq7,bq8] at h2
     obtain⟨w,hw⟩:=getlt (l:=l) (i:=j) (by omega)
     refine r_skip (r_seq (r_block (r_region (p_mv rfl rfl (p_mv rfl rfl (l_op (x_p (pv_mv (.s rfl rfl rfl) rfl rfl gA) rfl rfl (l_op (x_p (pv_mv (.s rfl rfl rfl) rfl rfl gA) rfl rfl ?_)))))))))
     refine l_op (x_p (pv_idx Tryz.underlying89 (.ofA ta_93) hv (fun hg=>⟨rfl,(mapget hw)⟩) (.s rfl rfl rfl) rfl rfl rfl gB) rfl rfl ?_)
     refine l_op (x_p (pv_faat fa_93_0 (fun hg=>Rd.sh hv (mapget hw)) (.s rfl rfl rfl) rfl rfl gA) rfl rfl ?_)
     refine l_op (x_r (rv_ldat (j:=0) tc_3 (Rd.ent hv (eJ (by repeat constructor))) (fun hg=>(mapget hw)) (.s rfl rfl rfl) rfl rfl gA rfl fR) rfl rfl ?_)
     refine l_op (x_q (rq_call cf_79 (.s rfl rfl rfl) rfl (.c rfl gA .n) (fun hg=>ref_ShopOf _ _ _)) rfl rfl ?_)
     refine l_op (x_p (pv_mv (.s rfl rfl rfl) rfl rfl gA) rfl rfl ?_)
     refine l_op (x_p (pv_eql (.s rfl rfl rfl) rfl rfl rfl gB) rfl rfl ?_)
     refine l_op (x_p (pv_or (.n rfl) rfl rfl rfl (fun _=>⟨rfl,fun hc=>by first|rfl|(rw[hc];rfl)|simp_all⟩)) rfl rfl ?_)
     refine p_as rfl rfl (o_keep (kp [0,2,3,4,5,6] rfl) (r_end (r_region (p_mv rfl rfl (p_add rfl rfl (by omega) rfl (p_as rfl rfl (o_keep (kp [0,2,3,4,5,6] rfl) ?_)))))))
     refine r_back_2 (j+1) (_) ?_ ?_ (Keep.app (kp [6,5] rfl) (kp [0,2,3,4] rfl)) ?_
     ·exact⟨by omega,by rw[hJ,List.take_add_one,hw];simp⟩
     ·omega
     ·apply eI;repeat constructor
    ·try simp only[bq1,bq2,bq3,bq4,bq5,bq6,bq7,bq8] at h2
     have hj:l.length≤j:=by omega
     rw[List.take_of_length_le hj] at hJ
     refine r_exit rfl (r_sr (p_mv rfl rfl (o_keep (kp [0,2,3,4,28] rfl) ?_)))
     refine r_cut_1 (fun (ov1:Value)=>[(3,true,ov1)]) (kp [0,2,4] rfl) (fun (ov1:Value)=>sl ov1 3 1 ((shopsTo l (s+1)).map rI)::(A++R)) (fun (ov1:Value)=>True) ?_ (fun ov1 hI=>?_)
     ·skip
      refine r_cond _ rfl (fun h3=>?_) (fun h3=>?_)
      ·try simp only[bq1,bq2,bq3,bq4,bq5,bq6,bq7,bq8] at h3
       have hh:=h3
       refine r_region (p_mv rfl rfl (p_mv rfl rfl ?_))
       refine p_bslice1 Tryz.underlying65 (.ofC tc_3) zr_3 rfl rfl rfl rfl rfl rfl rfl fun b31=>?_
       refine p_append Tryz.underlying65 el_3 rfl rfl rfl rfl rfl (Rd.blit rfl rfl) (by simp;have:=shopsTo_len (l:=l) (s:=s);omega) fun v32=>?_
       refine o_rd v32 fun hr32=>?_
       refine p_as rfl rfl (o_keep (kp [0,2,3,4] rfl) ?_)
       refine r_join_1 (_) ?_ (Keep.app (kp [3] rfl) (kp [0,2,4] rfl)) ?_
       ·trivial
       ·rw[shops_any (s:=s),← hJ,hh,if_pos rfl,List.map_append];apply eI;repeat constructor
      ·try simp only[bq1,bq2,bq3,bq4,bq5,bq6,bq7,bq8] at h3
       have hh:=h3
       refine r_skip ?_
       refine r_join_1 (ov) ?_ (Keep.app (kp [3] rfl) (kp [0,2,4] rfl)) ?_
       ·trivial
       ·rw[shops_any (s:=s),← hJ,hh,if_neg (by simp)];apply eI;repeat constructor
     refine r_end (r_region (p_mv rfl rfl (p_add rfl rfl (by omega) rfl (p_as rfl rfl (o_keep (kp [0,2,3,4] rfl) ?_)))))
     refine r_back_2 (s+1) (ov1) ?_ ?_ (Keep.app (kp [4,3] rfl) (kp [0,2] rfl)) ?_
     ·omega
     ·omega
     ·apply eI;repeat constructor
  ·try simp only[bq1,bq2,bq3,bq4,bq5,bq6,bq7,bq8] at h1
   refine r_exit rfl (r_sr (p_mv rfl rfl (p_as rfl rfl (o_keep (kp [2] rfl) ?_))))
   refine r_rete (ov) hF rfl (.c (.t rfl) .n) ?_ ?_
   ·have hs3:s=3:=(by omega);subst hs3;exact Ent.rfl
   ·rfl
theorem wget2{ws:List Int}{i:Nat}{n:Int}(h:i<ws.length):((ws.set i n).map vI)[i]?=some (.int .i64 n):=by rw[List.getElem?_map,List.getElem?_set_self h];rfl
theorem wget{ws:List Int}{i:Nat}(h:i<ws.length):(ws.map vI)[i]?=some (.int .i64 (ws.getD i 0)):=by rw[List.getElem?_map,getDs (d:=0) h];rfl
theorem eq_Fault{f g:Flt}:EqT Tryz.prog 31 (rF f) (rF g) (decide (f=g)):=
  ⟨Tryz.eqGuardType31,fun w=>by
    obtain⟨a,b⟩:=f
    obtain⟨a',b'⟩:=g
    simp only[rF]
    rw[show (10000:Nat)=9998+1+1 from rfl,run_equalIn_agg w _ _ _ _ Tryz.underlying31 Tryz.stoodInHeld31]
    by_cases h1:a=a'<;>by_cases h2:b=b'<;>simp[Program.fieldsOf,Op.eqFields,part,run_equalIn_int w _ _ _ _ _ _ Tryz.underlying3,h1,h2]⟩
theorem applyL_err{ws:List Int}{l:List Want}(h:(checkL l).code≠0):applyL ws l=(z6,checkL l):=by unfold applyL;rw[if_pos h]
theorem applyL_go{ws:List Int}{l:List Want}(h:(checkL l).code=0):applyL ws l=goA ws (l.take l.length |>.drop 0) 0∧∀ w∈l,wantF w=0:=by
  refine⟨by unfold applyL;rw[if_neg (by omega)];simp,((checkL_ok l).1 h).2.2.1⟩
theorem goA_at {ws wc : List Int} {l : List Want} {i : Nat} {w : Want} (hI : applyL ws l = goA wc (l.drop i) i) (hw : l[i]? = some w) :
    (wc.getD w.ctr.toNat 0 < 0 ∨ 100 < wc.getD w.ctr.toNat 0 → applyL ws l = (z6, ⟨1, i⟩)) ∧ (¬ (wc.getD w.ctr.toNat 0 < 0 ∨ 100 < wc.getD w.ctr.toNat 0) → wc.getD w.ctr.toNat 0 + w.dl < 0 → applyL ws l = (z6, ⟨5, i⟩)) ∧
    (¬ (wc.getD w.ctr.toNat 0 < 0 ∨ 100 < wc.getD w.ctr.toNat 0) → ¬ wc.getD w.ctr.toNat 0 + w.dl < 0 → 100 < wc.getD w.ctr.toNat 0 + w.dl → applyL ws l = (z6, ⟨6, i⟩)) ∧
    (¬ (wc.getD w.ctr.toNat 0 < 0 ∨ 100 < wc.getD w.ctr.toNat 0) → ¬ wc.getD w.ctr.toNat 0 + w.dl < 0 → ¬ 100 < wc.getD w.ctr.toNat 0 + w.dl → applyL ws l = goA (wc.set w.ctr.toNat (wc.getD w.ctr.toNat 0 + w.dl)) (l.drop (i + 1)) (i + 1)) := by
  rw[drop_at hw] at hI
  unfold goA at hI
  refine⟨fun h=>?_,fun h h2=>?_,fun h h2 h3=>?_,fun h h2 h3=>?_⟩
  · rw[if_pos h] at hI;exact hI
  · rw[if_neg h,if_pos h2] at hI;exact hI
  · rw[if_neg h,if_neg h2,if_pos h3] at hI;exact hI
  · rw[if_neg h,if_neg h2,if_neg h3] at hI;exact hI
theorem plan_Apply (M:Amb)(H:List HP)(v:Value)(l:List Want)(ws:List Int)(hv:Rd M H v 2 (l.map rW))(hb:l.length≤100000)(h6:ws.length=6):FnV Tryz.prog M H 106 [.agg (ws.map vI).toArray,v] (.tuple #[.agg ((applyL ws l).1.map vI).toArray,.agg (rF (applyL ws l).2).toArray]):=by
 refine fn_intro Tryz.func106 rfl Tryz.ntmps106 rfl fun F hF=>?_
 refine r_sr (p_box rfl rfl rfl fun b2=>?_)
 refine p_alloc zr_38 rfl fun b4=>?_
 refine p_alloc zr_31 rfl fun b5=>?_
 refine o_keep (kp [1,2,4,5] rfl) (r_seq (r_sr (p_mv rfl rfl ?_)))
 refine p_callv cf_133 (.c rfl .n) rfl (plan_Check _ _ _ _ (Rd.ent hv (eJ (by repeat constructor))) hb) ?_
 refine p_alloc zr_31 rfl fun b6=>?_
 refine p_store (.ofA ta_31) rfl rfl rfl rfl rfl (by repeat constructor) ?_
 refine o_keep (kp [1,2,4,5,6] rfl) (r_sr (p_fa fa_31_0 rfl rfl (p_ldc tc_3 rfl (by rfl) rfl ?_)))
 refine p_neq rfl rfl rfl (o_keep (kp [1,2,4,5,6,14] rfl) (r_cond _ rfl (fun h1=>?_) (fun h1=>?_)))
 ·try simp only[bq1,bq2,bq3,bq4,bq5,bq6,bq7,bq8] at h1
  have ha:=applyL_err (ws:=ws) h1
  refine r_seq ?_
  refine r_plan (_) ([blk b4 [.int .i64 0,.int .i64 0,.int .i64 0,.int .i64 0,.int .i64 0,.int .i64 0] 38,blk b5 [.int .i64 0,.int .i64 0] 31]) mo (kp [1,2,4,5,6] rfl) ((Ent.c SelB.ent (Ent.c SelB.ent Ent.rfl))) ?_
  refine yp 0 [] rfl rfl (by kernel_rfl) (pv_buildA zr_38 Tryz.underlying38 (.ofC tc_3) (.n rfl) rfl (.n)) (yr 1 [.k 6] rfl rfl (by kernel_rfl) (fun He=>q_lda ta_31 (.n rfl) rfl rfl fR (by exact (.s (.s .z)))) ?_)
  refine qm_store (.ofA ta_38) (i:=2) [.k 4,.o 0] (by kernel_rfl) (by kernel_rfl) rfl rfl rfl (by kernel_rfl) (by kernel_rfl) ⟨_,.n rfl,rfl⟩ rfl rfl rfl rfl rfl (by first|rfl|exact (by simp[vI,Value.oneCell'])) (Ins.whole rfl) ?_
  refine qb_store (.ofA ta_31) (i:=3) [.k 5,.o 1] (by kernel_rfl) (by kernel_rfl) rfl rfl rfl (by kernel_rfl) (by kernel_rfl) (by kernel_rfl) ⟨_,.n rfl,rfl⟩ rfl rfl rfl rfl rfl rfl (by repeat constructor) ?_
  refine qm_n (by kernel_rfl) (by kernel_rfl) (by kernel_rfl) (by kernel_rfl) (kp [1,2,4,5] rfl) ?_
  refine r_retv hF rfl (.c (.a rfl ta_38 (.blk (SelB.ent) (Tk.all rfl)) rfl) (.c (.a rfl ta_31 (.blk (SelB.ent) (.s (.s .z))) rfl) .n)) ?_ ?_
  ·apply eI;repeat constructor
  ·rw[ha];rfl
 ·try simp only[bq1,bq2,bq3,bq4,bq5,bq6,bq7,bq8] at h1
  obtain⟨hg0,hok⟩:=applyL_go (ws:=ws) (l:=l) (by omega)
  refine r_skip (r_seq (r_sr (p_mv rfl rfl (l_op (x_p (pv_lens hv.len ⟨_,Tryz.underlying89⟩ (.n rfl) rfl rfl rfl rfl fR) rfl rfl (p_mv rfl rfl (o_keep (kp [2,4,5,17,18,19] rfl) (r_block ?_))))))))
  refine r_loop_2 (fun (i:Nat) (wc:List Int)=>[(19,true,.int .i64 (i:Int))]) (kp [2,4,5,17,18] rfl) (fun (i:Nat) (wc:List Int)=>blk b2 (wc.map vI) 38::blk b4 (z6.map vI) 38::blk b5 (rF ⟨0,0⟩) 31::H) (fun (i:Nat) (wc:List Int)=>i≤l.length∧wc.length=6∧applyL ws l=goA wc (l.drop i) i) (fun (i:Nat) (wc:List Int)=>l.length - i) (0) (ws) ?_ (kp [19] rfl) ?_ (fun i wc hI=>?_)
  ·exact⟨Nat.zero_le _,h6,by rw[hg0];simp⟩
  ·apply eI;repeat constructor
  ·skip
   obtain⟨hil,hc6,hI⟩:=hI
   refine r_sr (p_lss rfl rfl rfl (o_keep (kp [2,4,5,17,18,19,20] rfl) (r_seq (r_cond _ rfl (fun h2=>?_) (fun h2=>?_)))))
   ·try simp only[bq1,bq2,bq3,bq4,bq5,bq6,bq7,bq8] at h2
    obtain⟨w,hw⟩:=getlt (l:=l) (i:=i) (by omega)
    have hwk:=wantF_ok (hok w (List.mem_of_getElem? hw))
    have hg:=goA_at hI hw
    refine r_skip (r_seq (r_block (r_sr (p_mv rfl rfl (p_idx Tryz.underlying89 (.ofA ta_93) hv rfl (mapget hw) rfl rfl rfl ?_)))))
    refine p_ldats 0 ta_93 (Rd.ent hv (eJ (by repeat constructor))) (mapget hw) rfl rfl (.s (.s .z)) rfl ?_
    refine p_alloc zr_93 rfl fun b8=>?_
    refine p_as rfl rfl ?_
    refine p_store (.ofA ta_93) rfl rfl rfl rfl rfl (by repeat constructor) ?_
    refine o_keep (kp [2,4,5,7,8,17,18,19] rfl) (r_sr (p_fa fa_93_0 rfl rfl (p_ldc tc_3 rfl (by rfl) rfl ?_)))
    refine l_op (x_p (pv_aidx (i:=w.ctr.toNat) Tryz.underlying38 (.ofC tc_3) (fun hg=>⟨by omega,by omega⟩) (.n rfl) rfl rfl rfl fS) rfl rfl (l_op (x_r (q_ldci (i:=w.ctr.toNat) tc_3 (.n rfl) rfl rfl fR (by omega) (wget (by omega))) rfl rfl ?_)))
    refine p_as rfl rfl (o_keep (kp [2,4,5,7,8,9,17,18,19] rfl) (r_seq (r_block (r_sr (p_mv rfl rfl (p_lss rfl rfl rfl (p_mv rfl rfl ?_)))))))
    refine l_op (x_p (pv_mv (.s rfl rfl rfl) rfl rfl gA) rfl rfl ?_)
    refine l_op (x_p (pv_gtr (.s rfl rfl rfl) rfl rfl rfl gB) rfl rfl ?_)
    refine l_op (x_p (pv_or (.n rfl) rfl rfl rfl (fun _=>⟨rfl,fun hc=>by first|rfl|(rw[hc];rfl)|simp_all⟩)) rfl rfl ?_)
    refine p_as rfl rfl (o_keep (kp [2,4,5,7,8,9,17,18,19,28] rfl) (r_cond _ rfl (fun h3=>?_) (fun h3=>?_)))
    ·try simp only[bq1,bq2,bq3,bq4,bq5,bq6,bq7,bq8] at h3
     have ha:=hg.1 h3
     refine r_sr (l_op (x_p (pv_buildA zr_38 Tryz.underlying38 (.ofC tc_3) (.n rfl) rfl (.n)) rfl rfl (p_mv rfl rfl ?_)))
     refine p_build zr_31 pl_31 (.c rfl fR rfl rfl rfl (by repeat constructor) (.c rfl fR rfl rfl rfl (by repeat constructor) .n)) rfl ?_
     refine p_store (.ofA ta_38) rfl rfl rfl rfl (by first|rfl|exact (by simp[vI,Value.oneCell'])) (Ins.whole rfl) ?_
     refine p_store (.ofA ta_31) rfl rfl rfl rfl rfl (by repeat constructor) ?_
     refine o_keep (kp [2,4,5,8,9,17,18,19] rfl) ?_
     refine r_retv hF rfl (.c (.a rfl ta_38 (.blk (SelB.ent) (Tk.all rfl)) rfl) (.c (.a rfl ta_31 (.blk (SelB.ent) (.s (.s .z))) rfl) .n)) ?_ ?_
     ·apply eI;repeat constructor
     ·rw[ha];rfl
    ·try simp only[bq1,bq2,bq3,bq4,bq5,bq6,bq7,bq8] at h3
     have h28:=h3
     refine r_sr (p_mv rfl rfl (p_fa fa_93_1 rfl rfl (p_ldc tc_3 rfl (by rfl) rfl ?_)))
     refine p_add rfl rfl (by omega) rfl (p_lss rfl rfl rfl (p_as rfl rfl (o_keep (kp [2,4,5,7,8,9,17,18,19,38] rfl) (r_cond _ rfl (fun h4=>?_) (fun h4=>?_)))))
     ·try simp only[bq1,bq2,bq3,bq4,bq5,bq6,bq7,bq8] at h4
      have ha:=hg.2.1 (by omega) h4
      refine r_sr (l_op (x_p (pv_buildA zr_38 Tryz.underlying38 (.ofC tc_3) (.n rfl) rfl (.n)) rfl rfl (p_mv rfl rfl ?_)))
      refine p_build zr_31 pl_31 (.c rfl fR rfl rfl rfl (by repeat constructor) (.c rfl fR rfl rfl rfl (by repeat constructor) .n)) rfl ?_
      refine p_store (.ofA ta_38) rfl rfl rfl rfl (by first|rfl|exact (by simp[vI,Value.oneCell'])) (Ins.whole rfl) ?_
      refine p_store (.ofA ta_31) rfl rfl rfl rfl rfl (by repeat constructor) ?_
      refine o_keep (kp [2,4,5,8,9,17,18,19] rfl) ?_
      refine r_retv hF rfl (.c (.a rfl ta_38 (.blk (SelB.ent) (Tk.all rfl)) rfl) (.c (.a rfl ta_31 (.blk (SelB.ent) (.s (.s .z))) rfl) .n)) ?_ ?_
      ·apply eI;repeat constructor
      ·rw[ha];rfl
     ·try simp only[bq1,bq2,bq3,bq4,bq5,bq6,bq7,bq8] at h4
      have h38:=h4
      refine r_sr (p_mv rfl rfl (p_fa fa_93_1 rfl rfl (p_ldc tc_3 rfl (by rfl) rfl ?_)))
      refine p_add rfl rfl (by omega) rfl (p_gtr rfl rfl rfl (p_as rfl rfl (o_keep (kp [2,4,5,7,8,9,17,18,19,47] rfl) (r_cond _ rfl (fun h5=>?_) (fun h5=>?_)))))
      ·try simp only[bq1,bq2,bq3,bq4,bq5,bq6,bq7,bq8] at h5
       have ha:=hg.2.2.1 (by omega) (by omega) h5
       refine r_sr (l_op (x_p (pv_buildA zr_38 Tryz.underlying38 (.ofC tc_3) (.n rfl) rfl (.n)) rfl rfl (p_mv rfl rfl ?_)))
       refine p_build zr_31 pl_31 (.c rfl fR rfl rfl rfl (by repeat constructor) (.c rfl fR rfl rfl rfl (by repeat constructor) .n)) rfl ?_
       refine p_store (.ofA ta_38) rfl rfl rfl rfl (by first|rfl|exact (by simp[vI,Value.oneCell'])) (Ins.whole rfl) ?_
       refine p_store (.ofA ta_31) rfl rfl rfl rfl rfl (by repeat constructor) ?_
       refine o_keep (kp [2,4,5,8,9,17,18,19] rfl) ?_
       refine r_retv hF rfl (.c (.a rfl ta_38 (.blk (SelB.ent) (Tk.all rfl)) rfl) (.c (.a rfl ta_31 (.blk (SelB.ent) (.s (.s .z))) rfl) .n)) ?_ ?_
       ·apply eI;repeat constructor
       ·rw[ha];rfl
      ·try simp only[bq1,bq2,bq3,bq4,bq5,bq6,bq7,bq8] at h5
       have hnx:=hg.2.2.2 (by omega) (by omega) h5
       refine r_skip (r_end (r_region (p_fa fa_93_0 rfl rfl (p_ldc tc_3 rfl (by rfl) rfl ?_))))
       refine p_mv rfl rfl (p_fa fa_93_1 rfl rfl (p_ldc tc_3 rfl (by rfl) rfl ?_))
       refine p_add rfl rfl (by omega) rfl (l_op (x_p (pv_aidx (i:=w.ctr.toNat) Tryz.underlying38 (.ofC tc_3) (fun hg=>⟨by omega,by omega⟩) (.n rfl) rfl rfl rfl fS) rfl rfl ?_))
       refine p_store (.ofC tc_3) rfl rfl rfl rfl rfl (Ins.atm' (f:=vI) (i:=w.ctr.toNat) (by omega) (by omega)) ?_
       refine o_keep (kp [2,4,5,17,18,19] rfl) (r_end (r_region (p_add rfl rfl (by omega) rfl (p_mv rfl rfl (o_keep (kp [2,4,5,17,18,19] rfl) ?_)))))
       refine r_back_2 (i+1) (wc.set w.ctr.toNat (wc.getD w.ctr.toNat 0+w.dl)) ?_ ?_ (Keep.app (kp [19] rfl) (kp [2,4,5,17,18] rfl)) ?_
       ·exact⟨by omega,by simpa using hc6,hnx⟩
       ·omega
       ·apply eI;repeat constructor
   ·try simp only[bq1,bq2,bq3,bq4,bq5,bq6,bq7,bq8] at h2
    have ha:applyL ws l=(wc,⟨0,0⟩):=by rw[hI,List.drop_eq_nil_of_le (by omega)];rfl
    refine r_exit rfl (r_sr ?_)
    refine p_lda ta_38 rfl (by exact (Tk.all (by first|rfl|assumption|(simp only[List.drop_zero,List.length_map];assumption)|(simp[*];done)))) rfl ?_
    refine p_build zr_31 pl_31 (.n) rfl ?_
    refine p_store (.ofA ta_38) rfl rfl rfl (by first|rfl|exact (by first|rfl|assumption|(simp only[List.drop_zero,List.length_map];assumption)|(simp[*];done))) (by first|rfl|exact (by simp[vI,Value.oneCell'])) (Ins.whole (by first|rfl|(simp only[List.length_map,List.length_cons,List.length_nil];omega)|(simp[*];done)|(simp[*];rfl))) ?_
    refine p_store (.ofA ta_31) rfl rfl rfl rfl rfl (by repeat constructor) ?_
    refine o_keep (kp [4,5] rfl) ?_
    refine r_retv hF rfl (.c (.a rfl ta_38 (.blk (SelB.ent) (Tk.all rfl)) (by first|rfl|assumption|(simp only[List.drop_zero,List.length_map];assumption)|(simp[*];done))) (.c (.a rfl ta_31 (.blk (SelB.ent) (.s (.s .z))) rfl) .n)) ?_ ?_
    ·apply eI;repeat constructor
    ·rw[ha];rfl
theorem ref_Applied (M:Amb)(H:List HP)(v:Value)(l:List Want)(ws:List Int)(hv:Rd M H v 2 (l.map rW))(hb:l.length≤100000)(h6:ws.length=6):FnV Tryz.prog M H 77 [.agg (ws.map vI).toArray,v] (.tuple #[.agg ((applyL ws l).1.map vI).toArray,.agg (rF (applyL ws l).2).toArray]):=by
 refine fn_intro Tryz.func77 rfl Tryz.ntmps77 rfl fun F hF=>?_
 refine r_sr (p_box rfl rfl rfl fun b2=>?_)
 refine p_alloc zr_38 rfl fun b4=>?_
 refine p_alloc zr_31 rfl fun b5=>?_
 refine o_keep (kp [1,2,4,5] rfl) (r_seq (r_sr (p_mv rfl rfl ?_)))
 refine p_callv cf_115 (.c rfl .n) rfl (ref_WantsFault _ _ _ _ (Rd.ent hv (eJ (by repeat constructor))) hb) ?_
 refine p_alloc zr_31 rfl fun b6=>?_
 refine p_store (.ofA ta_31) rfl rfl rfl rfl rfl (by repeat constructor) ?_
 refine o_keep (kp [1,2,4,5,6] rfl) (r_sr (p_fa fa_31_0 rfl rfl (p_ldc tc_3 rfl (by rfl) rfl ?_)))
 refine p_neq rfl rfl rfl (o_keep (kp [1,2,4,5,6,13] rfl) (r_cond _ rfl (fun h1=>?_) (fun h1=>?_)))
 ·try simp only[bq1,bq2,bq3,bq4,bq5,bq6,bq7,bq8] at h1
  have ha:=applyL_err (ws:=ws) h1
  refine r_seq ?_
  refine r_plan (_) ([blk b4 [.int .i64 0,.int .i64 0,.int .i64 0,.int .i64 0,.int .i64 0,.int .i64 0] 38,blk b5 [.int .i64 0,.int .i64 0] 31]) mo (kp [1,2,4,5,6] rfl) ((Ent.c SelB.ent (Ent.c SelB.ent Ent.rfl))) ?_
  refine yp 0 [] rfl rfl (by kernel_rfl) (pv_buildA zr_38 Tryz.underlying38 (.ofC tc_3) (.n rfl) rfl (.n)) (yr 1 [.k 6] rfl rfl (by kernel_rfl) (fun He=>q_lda ta_31 (.n rfl) rfl rfl fR (by exact (.s (.s .z)))) ?_)
  refine qm_store (.ofA ta_38) (i:=2) [.k 4,.o 0] (by kernel_rfl) (by kernel_rfl) rfl rfl rfl (by kernel_rfl) (by kernel_rfl) ⟨_,.n rfl,rfl⟩ rfl rfl rfl rfl rfl (by first|rfl|exact (by simp[vI,Value.oneCell'])) (Ins.whole rfl) ?_
  refine qb_store (.ofA ta_31) (i:=3) [.k 5,.o 1] (by kernel_rfl) (by kernel_rfl) rfl rfl rfl (by kernel_rfl) (by kernel_rfl) (by kernel_rfl) ⟨_,.n rfl,rfl⟩ rfl rfl rfl rfl rfl rfl (by repeat constructor) ?_
  refine qm_n (by kernel_rfl) (by kernel_rfl) (by kernel_rfl) (by kernel_rfl) (kp [1,2,4,5] rfl) ?_
  refine r_retv hF rfl (.c (.a rfl ta_38 (.blk (SelB.ent) (Tk.all rfl)) rfl) (.c (.a rfl ta_31 (.blk (SelB.ent) (.s (.s .z))) rfl) .n)) ?_ ?_
  ·apply eI;repeat constructor
  ·rw[ha];rfl
 ·try simp only[bq1,bq2,bq3,bq4,bq5,bq6,bq7,bq8] at h1
  obtain⟨hg0,hok⟩:=applyL_go (ws:=ws) (l:=l) (by omega)
  refine r_skip (r_seq (r_sr (p_as rfl rfl (o_keep (kp [1,2,4,5,7] rfl) (r_block ?_)))))
  refine r_loop_2 (fun (i:Nat) (wc:List Int)=>[(7,true,.int .i64 (i:Int))]) (kp [1,2,4,5] rfl) (fun (i:Nat) (wc:List Int)=>blk b2 (wc.map vI) 38::blk b4 (z6.map vI) 38::blk b5 (rF ⟨0,0⟩) 31::H) (fun (i:Nat) (wc:List Int)=>i≤l.length∧wc.length=6∧applyL ws l=goA wc (l.drop i) i) (fun (i:Nat) (wc:List Int)=>l.length - i) (0) (ws) ?_ (kp [7] rfl) ?_ (fun i wc hI=>?_)
  ·exact⟨Nat.zero_le _,h6,by rw[hg0];simp⟩
  ·apply eI;repeat constructor
  ·skip
   obtain⟨hil,hc6,hI⟩:=hI
   refine r_seq (r_sr (p_mv rfl rfl (p_mv rfl rfl (l_op (x_p (pv_lens hv.len ⟨_,Tryz.underlying89⟩ (.n rfl) rfl rfl rfl rfl fR) rfl rfl (p_lss rfl rfl rfl (o_keep (kp [1,2,4,5,7,19] rfl) (r_cond _ rfl (fun h2=>?_) (fun h2=>?_)))))))))
   ·try simp only[bq1,bq2,bq3,bq4,bq5,bq6,bq7,bq8] at h2
    obtain⟨w,hw⟩:=getlt (l:=l) (i:=i) (by omega)
    have hwk:=wantF_ok (hok w (List.mem_of_getElem? hw))
    have hg:=goA_at hI hw
    refine r_skip (r_seq (r_block (r_sr (p_mv rfl rfl (p_mv rfl rfl (p_idx Tryz.underlying89 (.ofA ta_93) hv rfl (mapget hw) rfl rfl rfl (p_faat fa_93_0 (Rd.sh hv (mapget hw)) rfl rfl ?_)))))))
    refine p_ldat 0 tc_3 (Rd.ent hv (eJ (by repeat constructor))) (mapget hw) rfl rfl rfl rfl ?_
    refine p_as rfl rfl (o_keep (kp [1,2,4,5,7,8] rfl) (r_seq (r_sr (p_mv rfl rfl (l_op (x_p (pv_aidx (i:=w.ctr.toNat) Tryz.underlying38 (.ofC tc_3) (fun hg=>⟨by omega,by omega⟩) (.n rfl) rfl rfl rfl fS) rfl rfl (l_op (x_r (q_ldci (i:=w.ctr.toNat) tc_3 (.n rfl) rfl rfl fR (by omega) (wget (by omega))) rfl rfl ?_))))))))
    refine p_lss rfl rfl rfl (p_mv rfl rfl (l_op (x_p (pv_mv (.s rfl rfl rfl) rfl rfl gA) rfl rfl ?_)))
    refine l_op (x_p (pv_aidx (i:=w.ctr.toNat) Tryz.underlying38 (.ofC tc_3) (fun hg=>⟨by omega,by omega⟩) (.s rfl rfl rfl) rfl rfl rfl gB) rfl rfl ?_)
    refine l_op (x_r (q_ldci (i:=w.ctr.toNat) tc_3 (.s rfl rfl rfl) rfl rfl gA (by omega) (wget (by omega))) rfl rfl ?_)
    refine l_op (x_p (pv_gtr (.s rfl rfl rfl) rfl rfl rfl gB) rfl rfl ?_)
    refine l_op (x_p (pv_or (.n rfl) rfl rfl rfl (fun _=>⟨rfl,fun hc=>by first|rfl|(rw[hc];rfl)|simp_all⟩)) rfl rfl ?_)
    refine o_keep (kp [1,2,4,5,7,8,36] rfl) (r_cond _ rfl (fun h3=>?_) (fun h3=>?_))
    ·try simp only[bq1,bq2,bq3,bq4,bq5,bq6,bq7,bq8] at h3
     have ha:=hg.1 h3
     refine r_sr (l_op (x_p (pv_buildA zr_38 Tryz.underlying38 (.ofC tc_3) (.n rfl) rfl (.n)) rfl rfl (p_mv rfl rfl ?_)))
     refine p_callv cf_17 (.c rfl (.c rfl .n)) rfl (ref_F _ _ _ _) ?_
     refine p_store (.ofA ta_38) rfl rfl rfl rfl (by first|rfl|exact (by simp[vI,Value.oneCell'])) (Ins.whole rfl) ?_
     refine p_store (.ofA ta_31) rfl rfl rfl rfl rfl (by repeat constructor) ?_
     refine o_keep (kp [1,2,4,5,7,8] rfl) ?_
     refine r_retv hF rfl (.c (.a rfl ta_38 (.blk (SelB.ent) (Tk.all rfl)) rfl) (.c (.a rfl ta_31 (.blk (SelB.ent) (.s (.s .z))) rfl) .n)) ?_ ?_
     ·apply eI;repeat constructor
     ·rw[ha];rfl
    ·try simp only[bq1,bq2,bq3,bq4,bq5,bq6,bq7,bq8] at h3
     have h28:=h3
     refine r_skip (r_seq ?_)
     refine r_plan _ [] mo (kp [1,2,4,5,7,8] rfl) Ent.rfl ?_
     refine yp 0 [.k 8] rfl rfl (by kernel_rfl) (u_mv rfl rfl rfl) (yp 1 [.k 2,.o 0] rfl rfl (by kernel_rfl) (pv_aidx (i:=w.ctr.toNat) Tryz.underlying38 (.ofC tc_3) (fun hg=>⟨by omega,by omega⟩) (.n rfl) rfl rfl rfl fS) ?_)
     refine yr 2 [.o 1] rfl rfl (by kernel_rfl) (fun He=>q_ldci (i:=w.ctr.toNat) tc_3 (.n rfl) rfl rfl fR (by omega) (wget (by omega))) ?_
     refine yp 3 [.k 1] rfl rfl (by kernel_rfl) (u_mv rfl rfl rfl) (yp 4 [.k 7] rfl rfl (by kernel_rfl) (u_mv rfl rfl rfl) (yp 5 [.o 3,.o 4] rfl rfl (by kernel_rfl) (pv_idx Tryz.underlying89 (.ofA ta_93) hv (fun hg=>⟨rfl,(mapget hw)⟩) (.n rfl) rfl rfl rfl fS) ?_))
     refine yp 6 [.o 5] rfl rfl (by kernel_rfl) (pv_faat fa_93_1 (fun hg=>Rd.sh hv (mapget hw)) (.n rfl) rfl rfl fR) ?_
     refine yr 7 [.o 6] rfl rfl (by kernel_rfl) (fun He=>rv_ldat (j:=1) tc_3 (Rd.ent hv (eJ (by repeat constructor))) (fun hg=>(mapget hw)) (.n rfl) rfl rfl fR rfl fR) ?_
     refine yp 8 [.o 2,.o 7] rfl rfl (by kernel_rfl) (pv_add (fun _=>by omega) (.n rfl) rfl rfl rfl fS) (yp 9 [.k 2,.o 0] rfl rfl (by kernel_rfl) (pv_aidx (i:=w.ctr.toNat) Tryz.underlying38 (.ofC tc_3) (fun hg=>⟨by omega,by omega⟩) (.n rfl) rfl rfl rfl fS) ?_)
     refine qb_store (.ofC tc_3) (i:=10) [.o 9,.o 8] (by kernel_rfl) (by kernel_rfl) rfl rfl rfl (by kernel_rfl) (by kernel_rfl) (by kernel_rfl) ⟨_,.n rfl,rfl⟩ rfl rfl rfl rfl rfl rfl (Ins.atm' (f:=vI) (i:=w.ctr.toNat) (by omega) (by omega)) ?_
     refine qm_n (by kernel_rfl) (by kernel_rfl) (by kernel_rfl) (by kernel_rfl) (kp [1,2,4,5,7,8] rfl) ?_
     refine r_seq (r_sr (p_mv rfl rfl (l_op (x_p (pv_aidx (i:=w.ctr.toNat) Tryz.underlying38 (.ofC tc_3) (fun hg=>⟨by omega,by omega⟩) (.n rfl) rfl rfl rfl fS) rfl rfl (l_op (x_r (q_ldci (i:=w.ctr.toNat) tc_3 (.n rfl) rfl rfl fR (by omega) (wget2 (by omega))) rfl rfl ?_))))))
     refine p_lss rfl rfl rfl (o_keep (kp [1,2,4,5,7,8,53] rfl) (r_cond _ rfl (fun h4=>?_) (fun h4=>?_)))
     ·try simp only[bq1,bq2,bq3,bq4,bq5,bq6,bq7,bq8] at h4
      have ha:=hg.2.1 (by omega) h4
      refine r_sr (l_op (x_p (pv_buildA zr_38 Tryz.underlying38 (.ofC tc_3) (.n rfl) rfl (.n)) rfl rfl (p_mv rfl rfl ?_)))
      refine p_callv cf_17 (.c rfl (.c rfl .n)) rfl (ref_F _ _ _ _) ?_
      refine p_store (.ofA ta_38) rfl rfl rfl rfl (by first|rfl|exact (by simp[vI,Value.oneCell'])) (Ins.whole rfl) ?_
      refine p_store (.ofA ta_31) rfl rfl rfl rfl rfl (by repeat constructor) ?_
      refine o_keep (kp [1,2,4,5,7,8] rfl) ?_
      refine r_retv hF rfl (.c (.a rfl ta_38 (.blk (SelB.ent) (Tk.all rfl)) rfl) (.c (.a rfl ta_31 (.blk (SelB.ent) (.s (.s .z))) rfl) .n)) ?_ ?_
      ·apply eI;repeat constructor
      ·rw[ha];rfl
     ·try simp only[bq1,bq2,bq3,bq4,bq5,bq6,bq7,bq8] at h4
      have h38:=h4
      refine r_skip (r_sr (p_mv rfl rfl (l_op (x_p (pv_aidx (i:=w.ctr.toNat) Tryz.underlying38 (.ofC tc_3) (fun hg=>⟨by omega,by omega⟩) (.n rfl) rfl rfl rfl fS) rfl rfl (l_op (x_r (q_ldci (i:=w.ctr.toNat) tc_3 (.n rfl) rfl rfl fR (by omega) (wget2 (by omega))) rfl rfl ?_))))))
      refine p_gtr rfl rfl rfl (o_keep (kp [1,2,4,5,7,60] rfl) (r_cond _ rfl (fun h5=>?_) (fun h5=>?_)))
      ·try simp only[bq1,bq2,bq3,bq4,bq5,bq6,bq7,bq8] at h5
       have ha:=hg.2.2.1 (by omega) (by omega) h5
       refine r_sr (l_op (x_p (pv_buildA zr_38 Tryz.underlying38 (.ofC tc_3) (.n rfl) rfl (.n)) rfl rfl (p_mv rfl rfl ?_)))
       refine p_callv cf_17 (.c rfl (.c rfl .n)) rfl (ref_F _ _ _ _) ?_
       refine p_store (.ofA ta_38) rfl rfl rfl rfl (by first|rfl|exact (by simp[vI,Value.oneCell'])) (Ins.whole rfl) ?_
       refine p_store (.ofA ta_31) rfl rfl rfl rfl rfl (by repeat constructor) ?_
       refine o_keep (kp [1,2,4,5,7] rfl) ?_
       refine r_retv hF rfl (.c (.a rfl ta_38 (.blk (SelB.ent) (Tk.all rfl)) rfl) (.c (.a rfl ta_31 (.blk (SelB.ent) (.s (.s .z))) rfl) .n)) ?_ ?_
       ·apply eI;repeat constructor
       ·rw[ha];rfl
      ·try simp only[bq1,bq2,bq3,bq4,bq5,bq6,bq7,bq8] at h5
       have hnx:=hg.2.2.2 (by omega) (by omega) h5
       refine r_skip (r_end (r_region (p_mv rfl rfl (p_add rfl rfl (by omega) rfl (p_as rfl rfl (o_keep (kp [1,2,4,5,7] rfl) ?_))))))
       refine r_back_2 (i+1) (wc.set w.ctr.toNat (wc.getD w.ctr.toNat 0+w.dl)) ?_ ?_ (Keep.app (kp [7] rfl) (kp [1,2,4,5] rfl)) ?_
       ·exact⟨by omega,by simpa using hc6,hnx⟩
       ·omega
       ·apply eI;repeat constructor
   ·try simp only[bq1,bq2,bq3,bq4,bq5,bq6,bq7,bq8] at h2
    have ha:applyL ws l=(wc,⟨0,0⟩):=by rw[hI,List.drop_eq_nil_of_le (by omega)];rfl
    refine r_exit rfl (r_sr ?_)
    refine p_lda ta_38 rfl (by exact (Tk.all (by first|rfl|assumption|(simp only[List.drop_zero,List.length_map];assumption)|(simp[*];done)))) rfl ?_
    refine p_build zr_31 pl_31 (.n) rfl ?_
    refine p_store (.ofA ta_38) rfl rfl rfl (by first|rfl|exact (by first|rfl|assumption|(simp only[List.drop_zero,List.length_map];assumption)|(simp[*];done))) (by first|rfl|exact (by simp[vI,Value.oneCell'])) (Ins.whole (by first|rfl|(simp only[List.length_map,List.length_cons,List.length_nil];omega)|(simp[*];done)|(simp[*];rfl))) ?_
    refine p_store (.ofA ta_31) rfl rfl rfl rfl rfl (by repeat constructor) ?_
    refine o_keep (kp [4,5] rfl) ?_
    refine r_retv hF rfl (.c (.a rfl ta_38 (.blk (SelB.ent) (Tk.all rfl)) (by first|rfl|assumption|(simp only[List.drop_zero,List.length_map];assumption)|(simp[*];done))) (.c (.a rfl ta_31 (.blk (SelB.ent) (.s (.s .z))) rfl) .n)) ?_ ?_
    ·apply eI;repeat constructor
    ·rw[ha];rfl
end Go.Proofs.YtmakdilmibjpbaaGreatDoor
namespace Go.Proofs.YtmakdilmibjpbaaGreatDoor
open Go Go.RowKit
set_option linter.unusedVariables false
set_option linter.unusedSimpArgs false
theorem goA_len:∀ (l:List Want) (ws:List Int) (i:Nat),ws.length=6→(goA ws l i).1.length=6
  | [],ws,i,h=>h
  | x::l,ws,i,h=>by
    unfold goA
    split
    · rfl
    · split
      · rfl
      · split
        · rfl
        · exact goA_len l _ _ (by simpa using h)
theorem applyL_len{ws:List Int}{l:List Want}(h6:ws.length=6):(applyL ws l).1.length=6:=by
  unfold applyL;split
  · rfl
  · exact goA_len l ws 0 h6
end Go.Proofs.YtmakdilmibjpbaaGreatDoor
