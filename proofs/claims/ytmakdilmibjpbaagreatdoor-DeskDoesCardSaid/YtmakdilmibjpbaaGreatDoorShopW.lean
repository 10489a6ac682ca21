/- The walks of ShopW: written by a program of ours (gen.py) over the engine. -/
import Derived.Test.YtmakdilmibjpbaaGreatDoorWants
import Derived.Test.YtmakdilmibjpbaaGreatDoorFacts
import Derived.Test.YtmakdilmibjpbaaGreatDoorDeskP
import Derived.Test.YtmakdilmibjpbaaGreatDoorPlanW
namespace Go.Proofs.YtmakdilmibjpbaaGreatDoor
open Go Go.RowKit
set_option linter.unusedVariables false
set_option linter.unusedSimpArgs false
set_option maxRecDepth 20000
def newVal (o:Option ShopS)(x:Nat):Value:=match o with|none=>.pointer Option.none|some _=>ptr x
def newP (o:Option ShopS)(x:Nat):List HP:=match o with|none=>[]|some s=>[shopP x s]
theorem tup2{a b a' b':Bool}(h:a=a')(h2:b=b'):Value.tuple #[.bool a,.bool b]=.tuple #[.bool a',.bool b']:=by rw[h,h2]
theorem set0 (s:ShopS)(c:Cnt):s.set 0 c={s with c0:=c}:=rfl
theorem set1 (s:ShopS)(c:Cnt):s.set 1 c={s with c1:=c}:=rfl
theorem cnt0 (s:ShopS):s.cnt 0=s.c0:=rfl
theorem cnt1 (s:ShopS):s.cnt 1=s.c1:=rfl
theorem int_eq'{a b:Int}(h:a=b):resVal [Value.int .i64 a]=Value.int .i64 b:=by rw[h];rfl
theorem over_IndexFunc (M:Amb)(H:List HP)(v:Value)(l:List Ovr)(hv:Rd M H v 2 (l.map rO))(hb:l.length≤100000)(g:Nat)(caps:List Value)(p:Ovr→Bool)(hc:cfB Tryz.prog g=true)(hp:∀ o∈l,FnV Tryz.prog M H g (.agg (rO o).toArray::caps) (.bool (p o))):FnV Tryz.prog M H 187 [v,fnV g caps] (.int .i64 (idxI l p)):=by
 refine fn_intro Tryz.func187 rfl Tryz.ntmps187 rfl fun F hF=>?_
 refine r_sr (p_as rfl rfl (o_keep (kp [0,1,4] rfl) (r_seq (r_sr (p_mv rfl rfl (l_op (x_p (pv_lens hv.len ⟨_,Tryz.underlying182⟩ (.n rfl) rfl rfl rfl rfl fR) rfl rfl (p_mv rfl rfl ?_))))))))
 refine o_keep (kp [0,1,4,7,8] rfl) (r_block ?_)
 refine r_loop_1 (fun (i:Nat)=>[(8,true,.int .i64 (i:Int))]) (kp [0,1,4,7] rfl) (fun (i:Nat)=>H) (fun (i:Nat)=>i≤l.length∧∀ (j:Nat) x,j<i→l[j]?=some x→p x=false) (fun (i:Nat)=>l.length - i) (0) ?_ (kp [8] rfl) ?_ (fun i hI=>?_)
 ·exact⟨Nat.zero_le _,fun j x hj=>by omega⟩
 ·apply eI;repeat constructor
 ·skip
  obtain⟨_,hI⟩:=hI
  refine r_sr (p_lss rfl rfl rfl (o_keep (kp [0,1,4,7,8,9] rfl) (r_seq (r_cond _ rfl (fun h1=>?_) (fun h1=>?_)))))
  ·skip
   obtain⟨o,ho⟩:=getlt (l:=l) (i:=i) (by have:=of_decide_eq_true h1;omega)
   have hil:=(List.getElem?_eq_some_iff.1 ho).1
   refine r_skip (r_seq (r_block (r_sr (p_mv rfl rfl (p_as rfl rfl (o_keep (kp [0,1,4,5,7,8] rfl) (r_sr ?_)))))))
   refine p_mv rfl rfl (p_mv rfl rfl (p_mv rfl rfl (p_idx Tryz.underlying182 (.ofA ta_243) hv rfl (mapget ho) rfl rfl rfl ?_)))
   refine p_ldats 0 ta_243 (Rd.ent hv (eJ (by repeat constructor))) (mapget ho) rfl rfl (.s (.s .z)) rfl ?_
   refine l_op (x_q (rq_callf hc (.n rfl) rfl rfl fR (.c rfl fR .n) (fun hg=>hp _ (List.mem_of_getElem? ho))) rfl rfl ?_)
   refine o_keep (kp [0,1,4,5,7,8,16] rfl) (r_cond _ rfl (fun h2=>?_) (fun h2=>?_))
   ·skip
    have hpt:=h2
    refine r_sr (p_mv rfl rfl (p_as rfl rfl (o_keep (kp [0,1,4,7,8] rfl) ?_)))
    refine r_retv hF rfl (.c (.t rfl) .n) ?_ ?_
    ·apply eI;repeat constructor
    ·exact int_eq (idxI_hit ho hpt hI).symm
   ·skip
    have hpf:=h2
    refine r_skip (r_end (r_region (p_add rfl rfl (by omega) rfl (p_mv rfl rfl (o_keep (kp [0,1,4,7,8] rfl) ?_)))))
    refine r_back_1 (i+1) ?_ ?_ (Keep.app (kp [8] rfl) (kp [0,1,4,7] rfl)) ?_
    ·exact⟨by omega,idx_step hI ho hpf⟩
    ·omega
    ·apply eI;repeat constructor
  ·skip
   have hil:l.length≤i:=by have:=of_decide_eq_false h1;omega
   refine r_exit rfl (r_sr (p_as rfl rfl (o_keep (kp [4] rfl) ?_)))
   refine r_retv hF rfl (.c (.t rfl) .n) ?_ ?_
   ·apply eI;repeat constructor
   ·exact int_eq (idxI_miss fun j x hj=>hI j x (by omega)).symm
theorem shop_ended1 (M:Amb)(H:List HP)(o:Ovr)(b:Nat)(d:Int)(T:TypeId)(R:List HP)[hs:SelB H b [.int .i64 d] T R]:FnV Tryz.prog M H 188 [.agg (rO o).toArray,ptr b] (.bool (decide (o.deal=d))):=by
 refine fn_intro Tryz.func188 rfl Tryz.ntmps188 rfl fun F hF=>?_
 refine r_sr (p_box rfl rfl rfl fun b2=>?_)
 refine p_as rfl rfl (o_keep (kp [1,2,3] rfl) (r_sr (p_fa fa_243_0 rfl rfl (p_ldc tc_3 rfl (by rfl) rfl ?_))))
 refine p_ldc tc_3 rfl (by rfl) rfl ?_
 refine p_eql rfl rfl rfl (p_as rfl rfl (o_keep (kp [3] rfl) ?_))
 refine r_retv hF rfl (.c (.t rfl) .n) ?_ ?_
 ·apply eI;repeat constructor
 ·rfl
theorem shop_ended_o (M:Amb)(b:Nat)(s:ShopS)(hv ov:Value)(d:Int)(hb:s.over.length≤100000):FnC Tryz.prog M 182 [ptr b,.int .i64 d] (.int .i64 (endI s.over d)) (shL b s hv ov) (shL b s hv ov):=by
 refine fnc_intro Tryz.func182 rfl Tryz.ntmps182 rfl fun R F hF=>?_
 refine r_cat ?_
 refine r_rd ov fun hr=>?_
 refine r_sr (p_box rfl rfl rfl fun b3=>?_)
 refine p_as rfl rfl (o_keep (kp [0,3,4] rfl) (r_sr (p_mv rfl rfl (p_nil rfl rfl (p_fa fa_184_3 rfl rfl (p_ldc tc_182 rfl (by rfl) rfl ?_))))))
 refine l_op (x_p (pv_mkf rfl rfl (.c rfl .n)) rfl rfl ?_)
 refine p_callv cf_187 (.c rfl (.c rfl .n)) rfl (over_IndexFunc _ _ ov s.over hr.own hb 188 [ptr b3] (fun o=>decide (o.deal=d)) cf_188 (fun o _=>shop_ended1 _ _ o b3 d _ _)) ?_
 refine p_as rfl rfl (o_keep (kp [4] rfl) ?_)
 refine r_retv hF rfl (.c (.t rfl) .n) ?_ ?_
 ·refine Ent.catI ?_;apply eI;repeat constructor
 ·rfl
theorem shop_Counts (M:Amb)(b:Nat)(s:ShopS):FnC Tryz.prog M 105 [ptr b] (.agg (cntL s.c0++cntL s.c1).toArray) [shopP b s] [shopP b s]:=by
 refine fnc_intro Tryz.func105 rfl Tryz.ntmps105 rfl fun R F hF=>?_
 refine r_cat ?_
 refine r_ex2 fun hv ov=>?_
 refine r_cat ?_
 refine r_rd hv fun hrh=>?_
 refine r_rd ov fun hro=>?_
 refine r_sr (p_alloc zr_105 rfl fun b2=>?_)
 refine o_keep (kp [0,2] rfl) (r_sr (p_mv rfl rfl (p_nil rfl rfl (p_fa fa_184_1 rfl rfl ?_))))
 refine p_lda ta_105 rfl (by exact (.s (.s (.s (.s (.s (.s .z))))))) rfl ?_
 refine p_store (.ofA ta_105) rfl rfl rfl rfl rfl (by repeat constructor) ?_
 refine o_keep (kp [2] rfl) ?_
 refine r_retv hF rfl (.c (.a rfl ta_105 (.blk (SelB.ent) (.s (.s (.s (.s (.s (.s .z))))))) rfl) .n) ?_ ?_
 ·refine Ent.catI ?_;refine Ent.c (shopP_close hv ov rfl rfl rfl) ?_;apply eI;repeat constructor
 ·rfl
theorem hold_Clone (M:Amb)(A:List HP)(v:Value)(rows:List (List Value))(hr:Rd M A v 3 rows)(hb:rows.length≤100000):FnE (α:=Value) Tryz.prog M 144 [v] A (fun x=>x) (fun x=>sl x 116 3 rows::A):=by
 refine fne_intro Tryz.func144 rfl Tryz.ntmps144 rfl fun R F hF=>?_
 obtain⟨ao,c,rfl⟩:=hr.shape
 refine r_sr (p_as rfl rfl (o_keep (kp [0,2] rfl) (r_seq (r_sr (p_mv rfl rfl (l_op (x_p (pv_seqn Tryz.underlying112 (.n rfl) rfl rfl rfl fS) rfl rfl (o_keep (kp [0,2,4] rfl) ?_))))))))
 refine r_cond _ rfl (fun h1=>?_) (fun h1=>?_)
 ·skip
  cases ao with
  | some _=>cases h1
  | none=>
  obtain rfl:=hr.nilrows
  refine r_sr (p_as rfl rfl (o_keep (kp [0,2] rfl) ?_))
  refine r_rete (.slice Option.none 0 0) hF rfl (.c (.t rfl) .n) ?_ ?_
  ·exact Ent.slN
  ·rfl
 ·skip
  refine r_skip (r_sr ?_)
  refine p_bslice0 Tryz.underlying112 (.ofA ta_116) zr_116 rfl fun b5=>?_
  refine p_mv rfl rfl ?_
  refine p_append Tryz.underlying112 el_116 rfl rfl rfl rfl rfl (Rd.ent hr (Ent.dropR Ent.left)) (by simp;omega) fun v7=>?_
  refine o_rd v7 fun hr7=>?_
  refine p_as rfl rfl (o_keep (kp [2] rfl) ?_)
  refine r_rete (v7) hF rfl (.c (.t rfl) .n) ?_ ?_
  ·exact Ent.rfl
  ·rfl
theorem shop_Holds (M:Amb)(b:Nat)(s:ShopS)(hb1:s.holds.length≤100000)(hb2:s.over.length≤100000):FnE (α:=Value) Tryz.prog M 114 [ptr b] [shopP b s] (fun x=>x) (fun x=>[sl x 116 3 (s.holds.map rH),shopP b s]):=by
 refine fne_intro Tryz.func114 rfl Tryz.ntmps114 rfl fun R F hF=>?_
 refine r_cat ?_
 refine r_ex2 fun hv ov=>?_
 refine r_cat ?_
 refine r_rd hv fun hrh=>?_
 refine r_rd ov fun hro=>?_
 refine r_sr (p_as rfl rfl (o_keep (kp [0,2] rfl) (r_sr (p_mv rfl rfl (p_nil rfl rfl (p_fa fa_184_2 rfl rfl (p_ldc tc_112 rfl (by rfl) rfl ?_)))))))
 refine p_calle cf_144 (.c rfl .n) rfl (hold_Clone _ [sl hv 116 3 (s.holds.map rH)] _ _ hrh (by simpa using hb1)) fun lv=>?_
 refine o_cat ?_
 refine p_as rfl rfl (o_keep (kp [2] rfl) ?_)
 refine r_rete (lv) hF rfl (.c (.t rfl) .n) ?_ ?_
 ·refine Ent.catI ?_;refine Ent.c (SelS.ent) ?_;exact shopP_close hv ov rfl rfl rfl
 ·rfl
theorem newS_1{no:Int}{ws:List Int}(h:no<0∨3≤no):newS no ws=none:=by unfold newS;rw[if_pos h]
theorem newS_2{no:Int}{ws:List Int}(h:¬ (no<0∨3≤no))(h2:chk ⟨ws.getD (no*2).toNat 0,0,0⟩≠0):newS no ws=none:=by unfold newS;rw[if_neg h,if_pos h2]
theorem newS_3{no:Int}{ws:List Int}(h:¬ (no<0∨3≤no))(h2:chk ⟨ws.getD (no*2).toNat 0,0,0⟩=0)(h3:chk ⟨ws.getD (no*2+1).toNat 0,0,0⟩≠0):newS no ws=none:=by unfold newS;rw[if_neg h,if_neg (by omega),if_pos h3]
theorem newS_4{no:Int}{ws:List Int}(h:¬ (no<0∨3≤no))(h2:chk ⟨ws.getD (no*2).toNat 0,0,0⟩=0)(h3:chk ⟨ws.getD (no*2+1).toNat 0,0,0⟩=0):newS no ws=some ⟨no,⟨ws.getD (no*2).toNat 0,0,0⟩,⟨ws.getD (no*2+1).toNat 0,0,0⟩,[],[]⟩:=by unfold newS;rw[if_neg h,if_neg (by omega),if_neg (by omega)]
theorem newP_none{no:Int}{ws:List Int}{x:Nat}{R:List HP}(h:newS no ws=none):newP (newS no ws) x++R=R:=by rw[h];rfl
theorem newP_some{no:Int}{ws:List Int}{x:Nat}{R:List HP}{s:ShopS}(h:newS no ws=some s):newP (newS no ws) x++R=shopP x s::R:=by rw[h];rfl
theorem shop_New (M:Amb)(no:Int)(ws:List Int)(h6:ws.length=6):FnE (α:=Nat) Tryz.prog M 81 [.int .i64 no,.agg (ws.map vI).toArray] [] (fun x=>newVal (newS no ws) x) (fun x=>newP (newS no ws) x):=by
 refine fne_intro Tryz.func81 rfl Tryz.ntmps81 rfl fun R F hF=>?_
 show Run _ _ _ _ _ _ R
 refine r_sr (p_box rfl rfl rfl fun b3=>?_)
 refine p_as rfl rfl (o_keep (kp [0,3,4] rfl) (r_seq (r_sr (p_mv rfl rfl (p_lss rfl rfl rfl (p_mv rfl rfl (l_op (x_p (pv_mv (.s rfl rfl rfl) rfl rfl gA) rfl rfl ?_))))))))
 refine l_op (x_p (pv_geq (.s rfl rfl rfl) rfl rfl rfl gB) rfl rfl ?_)
 refine l_op (x_p (pv_or (.n rfl) rfl rfl rfl (fun _=>⟨rfl,fun hc=>by first|rfl|(rw[hc];rfl)|simp_all⟩)) rfl rfl ?_)
 refine o_keep (kp [0,3,4,12] rfl) (r_cond _ rfl (fun h1=>?_) (fun h1=>?_))
 ·try simp only[bq1,bq2,bq3,bq4,bq5,bq6,bq7,bq8] at h1
  have hn:=newS_1 (ws:=ws) (no:=no) h1
  refine r_sr (p_as rfl rfl (o_keep (kp [0,3,4] rfl) ?_))
  refine r_rete (0) hF rfl (.c (.t rfl) .n) ?_ ?_
  ·show Ent _ (newP _ _++R);rw[newP_none hn];apply eI;repeat constructor
  ·rw[hn];rfl
 ·try simp only[bq1,bq2,bq3,bq4,bq5,bq6,bq7,bq8] at h1
  have hno:¬ (no<0∨3≤no):=by omega
  refine r_skip (r_sr (p_mv rfl rfl ?_))
  refine p_build zr_184 pl_184 (.c rfl fR rfl rfl rfl (by repeat constructor) .n) rfl ?_
  refine p_box rfl rfl rfl fun b15=>?_
  refine p_as rfl rfl (o_keep (kp [0,3,4,5] rfl) (r_seq (r_sr (p_mv rfl rfl (o_keep (kp [0,3,4,5,16] rfl) (r_block ?_))))))
  refine r_loop_3 (fun (k:Nat) (a c:Int)=>[(16,true,.int .i64 (k:Int))]) (kp [0,3,4,5] rfl) (fun (k:Nat) (a c:Int)=>blk b15 [.int .i64 no,.int .i64 a,.int .i64 0,.int .i64 0,.int .i64 c,.int .i64 0,.int .i64 0,.slice Option.none 0 0,.slice Option.none 0 0] 184::blk b3 (ws.map vI) 38::R) (fun (k:Nat) (a c:Int)=>(k=0∧a=0∧c=0)∨(k=1∧a=(ws.getD (no*2).toNat 0)∧c=0∧chk ⟨(ws.getD (no*2).toNat 0),0,0⟩=0)∨(k=2∧a=(ws.getD (no*2).toNat 0)∧c=(ws.getD (no*2+1).toNat 0)∧chk ⟨(ws.getD (no*2).toNat 0),0,0⟩=0∧chk ⟨(ws.getD (no*2+1).toNat 0),0,0⟩=0)) (fun (k:Nat) (a c:Int)=>2 - k) (0) (0) (0) ?_ (kp [16] rfl) ?_ (fun k a c hI=>?_)
  ·exact .inl ⟨rfl,rfl,rfl⟩
  ·apply eI;repeat constructor
  ·skip
   refine r_sr (p_lss rfl rfl rfl (o_keep (kp [0,3,4,5,16,17] rfl) (r_seq (r_cond _ rfl (fun h2=>?_) (fun h2=>?_)))))
   ·try simp only[bq1,bq2,bq3,bq4,bq5,bq6,bq7,bq8] at h2
    have hk2:k<2:=by omega
    refine r_skip (r_seq (r_block (r_sr (p_mv rfl rfl (p_as rfl rfl (o_keep (kp [0,3,4,5,6,16] rfl) (r_seq ?_)))))))
    rcases (show (k=0∧a=0∧c=0)∨(k=1∧a=(ws.getD (no*2).toNat 0)∧c=0∧chk ⟨(ws.getD (no*2).toNat 0),0,0⟩=0) by rcases hI with h|h|h;exact .inl h;exact .inr h;omega) with ⟨rfl,rfl,rfl⟩|⟨rfl,rfl,rfl,hc0⟩
    ·skip
     refine r_plan _ [] mo (kp [0,3,4,5,6,16] rfl) Ent.rfl ?_
     refine yp 0 [.k 5] rfl rfl (by kernel_rfl) (u_mv rfl rfl rfl) (yp 1 [.k 6] rfl rfl (by kernel_rfl) (u_mv rfl rfl rfl) (yp 2 [.k 0] rfl rfl (by kernel_rfl) (u_mv rfl rfl rfl) (yp 3 [.o 2] rfl rfl (by kernel_rfl) (pv_mul (fun _=>by omega) (.n rfl) rfl rfl rfl fS) (yp 4 [.k 6] rfl rfl (by kernel_rfl) (u_mv rfl rfl rfl) ?_))))
     refine yp 5 [.o 3,.o 4] rfl rfl (by kernel_rfl) (pv_add (fun _=>by omega) (.n rfl) rfl rfl rfl fS) (yp 6 [.k 3,.o 5] rfl rfl (by kernel_rfl) (pv_aidx (i:=(no*2).toNat) Tryz.underlying38 (.ofC tc_3) (fun hg=>⟨by omega,by omega⟩) (.n rfl) rfl rfl rfl fS) ?_)
     refine yr 7 [.o 6] rfl rfl (by kernel_rfl) (fun He=>q_ldci (i:=(no*2).toNat) tc_3 (.n rfl) rfl rfl fR (by omega) (wget (by omega))) ?_
     refine yp 8 [.o 0] rfl rfl (by kernel_rfl) (u_nil rfl rfl rfl) (yp 9 [.o 8] rfl rfl (by kernel_rfl) (u_fa fa_184_1 rfl rfl rfl) (yp 10 [.o 9,.o 1] rfl rfl (by kernel_rfl) (pv_aidx (i:=0) Tryz.underlying105 (.ofA ta_104) (fun hg=>⟨rfl,by omega⟩) (.n rfl) rfl rfl rfl fS) ?_))
     refine yp 11 [.o 10] rfl rfl (by kernel_rfl) (u_fa fa_104_0 rfl rfl rfl) ?_
     refine qb_store (.ofC tc_3) (i:=12) [.o 11,.o 7] (by kernel_rfl) (by kernel_rfl) rfl rfl rfl (by kernel_rfl) (by kernel_rfl) (by kernel_rfl) ⟨_,.n rfl,rfl⟩ rfl rfl rfl rfl rfl rfl (by repeat constructor) ?_
     refine qm_n (by kernel_rfl) (by kernel_rfl) (by kernel_rfl) (by kernel_rfl) (kp [0,3,4,5,6,16] rfl) ?_
     refine r_sr (p_mv rfl rfl (p_mv rfl rfl (p_nil rfl rfl (p_fa fa_184_1 rfl rfl (l_op (x_p (pv_aidx (i:=0) Tryz.underlying105 (.ofA ta_104) (fun hg=>⟨rfl,by omega⟩) (.n rfl) rfl rfl rfl fS) rfl rfl (l_op (x_r (q_lda ta_104 (.n rfl) rfl rfl fR (by exact (.s (.s (.s .z))))) rfl rfl ?_))))))))
     refine p_callv cf_121 (.c rfl .n) rfl (count_Check _ _ _ _ _) ?_
     refine p_neq rfl rfl rfl (o_keep (kp [0,3,4,5,16,38] rfl) (r_cond _ rfl (fun h3=>?_) (fun h3=>?_)))
     ·try simp only[bq1,bq2,bq3,bq4,bq5,bq6,bq7,bq8] at h3
      have hn:=newS_2 (ws:=ws) hno h3
      refine r_sr (p_as rfl rfl (o_keep (kp [0,3,4,5,16] rfl) ?_))
      refine r_rete (0) hF rfl (.c (.t rfl) .n) ?_ ?_
      ·show Ent _ (newP _ _++R);rw[newP_none hn];apply eI;repeat constructor
      ·rw[hn];rfl
     ·try simp only[bq1,bq2,bq3,bq4,bq5,bq6,bq7,bq8] at h3
      have hk0:=h3
      refine r_skip (r_end (r_region (p_add rfl rfl (by omega) rfl (p_mv rfl rfl (o_keep (kp [0,3,4,5,16] rfl) ?_)))))
      refine r_back_3 (1) ((ws.getD (no*2).toNat 0)) (0) ?_ ?_ (Keep.app (kp [16] rfl) (kp [0,3,4,5] rfl)) ?_
      ·exact .inr (.inl ⟨rfl,rfl,rfl,hk0⟩)
      ·omega
      ·apply eI;repeat constructor
    ·skip
     refine r_plan _ [] mo (kp [0,3,4,5,6,16] rfl) Ent.rfl ?_
     refine yp 0 [.k 5] rfl rfl (by kernel_rfl) (u_mv rfl rfl rfl) (yp 1 [.k 6] rfl rfl (by kernel_rfl) (u_mv rfl rfl rfl) (yp 2 [.k 0] rfl rfl (by kernel_rfl) (u_mv rfl rfl rfl) (yp 3 [.o 2] rfl rfl (by kernel_rfl) (pv_mul (fun _=>by omega) (.n rfl) rfl rfl rfl fS) (yp 4 [.k 6] rfl rfl (by kernel_rfl) (u_mv rfl rfl rfl) ?_))))
     refine yp 5 [.o 3,.o 4] rfl rfl (by kernel_rfl) (pv_add (fun _=>by omega) (.n rfl) rfl rfl rfl fS) (yp 6 [.k 3,.o 5] rfl rfl (by kernel_rfl) (pv_aidx (i:=(no*2+1).toNat) Tryz.underlying38 (.ofC tc_3) (fun hg=>⟨by omega,by omega⟩) (.n rfl) rfl rfl rfl fS) ?_)
     refine yr 7 [.o 6] rfl rfl (by kernel_rfl) (fun He=>q_ldci (i:=(no*2+1).toNat) tc_3 (.n rfl) rfl rfl fR (by omega) (wget (by omega))) ?_
     refine yp 8 [.o 0] rfl rfl (by kernel_rfl) (u_nil rfl rfl rfl) (yp 9 [.o 8] rfl rfl (by kernel_rfl) (u_fa fa_184_1 rfl rfl rfl) (yp 10 [.o 9,.o 1] rfl rfl (by kernel_rfl) (pv_aidx (i:=1) Tryz.underlying105 (.ofA ta_104) (fun hg=>⟨rfl,by omega⟩) (.n rfl) rfl rfl rfl fS) ?_))
     refine yp 11 [.o 10] rfl rfl (by kernel_rfl) (u_fa fa_104_0 rfl rfl rfl) ?_
     refine qb_store (.ofC tc_3) (i:=12) [.o 11,.o 7] (by kernel_rfl) (by kernel_rfl) rfl rfl rfl (by kernel_rfl) (by kernel_rfl) (by kernel_rfl) ⟨_,.n rfl,rfl⟩ rfl rfl rfl rfl rfl rfl (by repeat constructor) ?_
     refine qm_n (by kernel_rfl) (by kernel_rfl) (by kernel_rfl) (by kernel_rfl) (kp [0,3,4,5,6,16] rfl) ?_
     refine r_sr (p_mv rfl rfl (p_mv rfl rfl (p_nil rfl rfl (p_fa fa_184_1 rfl rfl (l_op (x_p (pv_aidx (i:=1) Tryz.underlying105 (.ofA ta_104) (fun hg=>⟨rfl,by omega⟩) (.n rfl) rfl rfl rfl fS) rfl rfl (l_op (x_r (q_lda ta_104 (.n rfl) rfl rfl fR (by exact (.s (.s (.s .z))))) rfl rfl ?_))))))))
     refine p_callv cf_121 (.c rfl .n) rfl (count_Check _ _ _ _ _) ?_
     refine p_neq rfl rfl rfl (o_keep (kp [0,3,4,5,16,38] rfl) (r_cond _ rfl (fun h4=>?_) (fun h4=>?_)))
     ·try simp only[bq1,bq2,bq3,bq4,bq5,bq6,bq7,bq8] at h4
      have hn:=newS_3 (ws:=ws) hno hc0 h4
      refine r_sr (p_as rfl rfl (o_keep (kp [0,3,4,5,16] rfl) ?_))
      refine r_rete (0) hF rfl (.c (.t rfl) .n) ?_ ?_
      ·show Ent _ (newP _ _++R);rw[newP_none hn];apply eI;repeat constructor
      ·rw[hn];rfl
     ·try simp only[bq1,bq2,bq3,bq4,bq5,bq6,bq7,bq8] at h4
      have hk1:=h4
      refine r_skip (r_end (r_region (p_add rfl rfl (by omega) rfl (p_mv rfl rfl (o_keep (kp [0,3,4,5,16] rfl) ?_)))))
      refine r_back_3 (2) ((ws.getD (no*2).toNat 0)) ((ws.getD (no*2+1).toNat 0)) ?_ ?_ (Keep.app (kp [16] rfl) (kp [0,3,4,5] rfl)) ?_
      ·exact .inr (.inr ⟨rfl,rfl,rfl,hc0,hk1⟩)
      ·omega
      ·apply eI;repeat constructor
   ·try simp only[bq1,bq2,bq3,bq4,bq5,bq6,bq7,bq8] at h2
    have hk2:¬ k<2:=by omega
    rcases hI with ⟨rfl,_⟩|⟨rfl,_⟩|⟨rfl,rfl,rfl,hc0,hc1⟩;omega;omega
    have hn:=newS_4 (ws:=ws) hno hc0 hc1
    refine r_exit rfl (r_sr (p_mv rfl rfl (p_as rfl rfl (o_keep (kp [4] rfl) ?_))))
    refine r_rete (b15) hF rfl (.c (.t rfl) .n) ?_ ?_
    ·show Ent _ (newP _ _++R);rw[newP_some hn];refine Ent.tr (Ent.slN (E:=243) (sz:=2)) (Ent.tr (Ent.slN (E:=116) (sz:=3)) ?_);refine Ent.c (shopP_close (.slice Option.none 0 0) (.slice Option.none 0 0) rfl rfl rfl) ?_;apply eI;repeat constructor
    ·rw[hn];rfl
theorem shop_Hold (M:Amb)(b:Nat)(s:ShopS)(hb1:s.holds.length≤100000)(hb2:s.over.length≤100000)(hn0:0≤s.no)(d:Int)(w:Want):FnC Tryz.prog M 174 [ptr b,.int .i64 d,.agg (rW w).toArray] (.int .i64 (holdS s d w).2) [shopP b s] [shopP b (holdS s d w).1]:=by
 refine fnc_intro Tryz.func174 rfl Tryz.ntmps174 rfl fun R F hF=>?_
 refine r_cat ?_
 refine r_ex2 fun hv ov=>?_
 refine r_cat ?_
 refine r_rd hv fun hrh=>?_
 refine r_rd ov fun hro=>?_
 refine r_sr (p_box rfl rfl rfl fun b5=>?_)
 refine p_as rfl rfl (o_keep (kp [0,1,5,6] rfl) (r_seq (r_block (r_sr (p_mv rfl rfl (p_lss rfl rfl rfl (p_mv rfl rfl ?_)))))))
 refine l_op (x_p (pv_mv (.s rfl rfl rfl) rfl rfl gA) rfl rfl ?_)
 refine l_op (x_p (pv_geq (.s rfl rfl rfl) rfl rfl rfl gB) rfl rfl ?_)
 refine l_op (x_p (pv_or (.n rfl) rfl rfl rfl (fun _=>⟨rfl,fun hc=>by first|rfl|(rw[hc];rfl)|simp_all⟩)) rfl rfl ?_)
 refine p_as rfl rfl (o_keep (kp [0,1,5,6,13] rfl) (r_cond _ rfl (fun h1=>?_) (fun h1=>?_)))
 ·try simp only[bq1,bq2,bq3,bq4,bq5,bq6,bq7,bq8] at h1
  have hs:=holdS_1 (s:=s) (w:=w) h1
  refine r_sr (p_as rfl rfl (o_keep (kp [0,1,5,6] rfl) ?_))
  refine r_retv hF rfl (.c (.t rfl) .n) ?_ ?_
  ·refine Ent.catI ?_;rw[hs];refine Ent.c (shopP_close hv ov rfl rfl rfl) ?_;apply eI;repeat constructor
  ·rw[hs];rfl
 ·try simp only[bq1,bq2,bq3,bq4,bq5,bq6,bq7,bq8] at h1
  have hd:¬ (d<0∨8≤d):=by omega
  refine r_sr ?_
  refine p_lda ta_93 rfl (by exact (.s (.s .z))) rfl ?_
  refine p_callv cf_158 (.c rfl .n) rfl (plan_Want _ _ w) ?_
  refine p_neq rfl rfl rfl (p_as rfl rfl (o_keep (kp [0,1,5,6,20] rfl) (r_cond _ rfl (fun h2=>?_) (fun h2=>?_))))
  ·try simp only[bq1,bq2,bq3,bq4,bq5,bq6,bq7,bq8] at h2
   have hs:=holdS_2 (s:=s) hd h2
   refine r_sr ?_
   refine p_lda ta_93 rfl (by exact (.s (.s .z))) rfl ?_
   refine p_callv cf_158 (.c rfl .n) rfl (plan_Want _ _ w) ?_
   refine p_as rfl rfl (o_keep (kp [0,1,5,6] rfl) ?_)
   refine r_retv hF rfl (.c (.t rfl) .n) ?_ ?_
   ·refine Ent.catI ?_;rw[hs];refine Ent.c (shopP_close hv ov rfl rfl rfl) ?_;apply eI;repeat constructor
   ·rw[hs];rfl
  ·try simp only[bq1,bq2,bq3,bq4,bq5,bq6,bq7,bq8] at h2
   have hw0:wantF w=0:=by omega
   have hwk:=wantF_ok hw0
   refine r_seq ?_
   refine r_plan _ [] mo (kp [0,1,5,6] rfl) Ent.rfl ?_
   refine yp 0 [.k 5] rfl rfl (by kernel_rfl) (u_fa fa_93_0 rfl rfl rfl) (yr 1 [.o 0] rfl rfl (by kernel_rfl) (fun He=>u_ldc tc_3 rfl rfl rfl (by rfl)) ?_)
   refine yq 2 [.o 1] rfl rfl (by kernel_rfl) (fun He=>rq_call cf_113 (.n rfl) rfl (.c rfl fR .n) (fun hg=>plan_Shop _ _ _)) ?_
   refine yp 3 [.k 0] rfl rfl (by kernel_rfl) (u_mv rfl rfl rfl) (yp 4 [.o 3] rfl rfl (by kernel_rfl) (u_nil rfl rfl rfl) (yp 5 [.o 4] rfl rfl (by kernel_rfl) (u_fa fa_184_0 rfl rfl rfl) (yr 6 [.o 5] rfl rfl (by kernel_rfl) (fun He=>u_ldc tc_3 rfl rfl rfl (by rfl)) ?_)))
   refine yp 7 [.o 2,.o 6] rfl rfl (by kernel_rfl) (pv_neq (.n rfl) rfl rfl rfl fS) (yp 8 [.o 7] rfl rfl (by kernel_rfl) (u_as rfl rfl rfl) ?_)
   refine qm_n (by kernel_rfl) (by kernel_rfl) (by kernel_rfl) (by kernel_rfl) (kp [0,1,5,6,26] rfl) ?_
   refine r_cond _ rfl (fun h3=>?_) (fun h3=>?_)
   ·try simp only[bq1,bq2,bq3,bq4,bq5,bq6,bq7,bq8] at h3
    have hs:=holdS_3 hd hw0 h3
    refine r_sr (p_as rfl rfl (o_keep (kp [0,1,5,6] rfl) ?_))
    refine r_retv hF rfl (.c (.t rfl) .n) ?_ ?_
    ·refine Ent.catI ?_;rw[hs];refine Ent.c (shopP_close hv ov rfl rfl rfl) ?_;apply eI;repeat constructor
    ·rw[hs];rfl
   ·try simp only[bq1,bq2,bq3,bq4,bq5,bq6,bq7,bq8] at h3
    have hsh:shopOf w.ctr=s.no:=by omega
    refine r_sr (p_mv rfl rfl (p_mv rfl rfl ?_))
    refine p_callv cf_182 (.c rfl (.c rfl .n)) rfl ((shop_ended_o _ b s hv ov d hb2).q) ?_
    refine p_geq rfl rfl rfl (p_as rfl rfl (o_keep (kp [0,1,5,6,35] rfl) (r_cond _ rfl (fun h4=>?_) (fun h4=>?_))))
    ·try simp only[bq1,bq2,bq3,bq4,bq5,bq6,bq7,bq8] at h4
     have hov:(overL s.over d).isSome=true:=by obtain⟨_,_,_,_,h⟩:=endI_at (l:=s.over) (d:=d) h4;rw[h];rfl
     have hs:=holdS_4 hd hw0 hsh hov
     refine r_sr (p_as rfl rfl (o_keep (kp [0,1,5,6] rfl) ?_))
     refine r_retv hF rfl (.c (.t rfl) .n) ?_ ?_
     ·refine Ent.catI ?_;rw[hs];refine Ent.c (shopP_close hv ov rfl rfl rfl) ?_;apply eI;repeat constructor
     ·rw[hs];rfl
    ·try simp only[bq1,bq2,bq3,bq4,bq5,bq6,bq7,bq8] at h4
     have hov:overL s.over d=none:=endI_no (by omega)
     refine r_skip (r_end (r_sr (p_mv rfl rfl (p_fa fa_93_0 rfl rfl (p_ldc tc_3 rfl (by rfl) rfl ?_)))))
     refine p_fa fa_93_1 rfl rfl (p_ldc tc_3 rfl (by rfl) rfl ?_)
     refine p_build zr_116 pl_116 (.c rfl fR rfl rfl rfl (by repeat constructor) (.c rfl fR rfl rfl rfl (by repeat constructor) (.c rfl fR rfl rfl rfl (by repeat constructor) .n))) rfl ?_
     refine p_alloc zr_116 rfl fun b7=>?_
     refine p_store (.ofA ta_116) rfl rfl rfl (by first|rfl|exact rfl) (by first|rfl|exact rfl) (Ins.whole (by simp[*])) ?_
     refine o_keep (.c 0 rfl (.c 1 rfl (.c 5 rfl (.c 6 rfl (.c 7 rfl .n))))) (r_seq (r_sr (p_mv rfl rfl (p_nil rfl rfl (p_fa fa_184_2 rfl rfl (p_ldc tc_112 rfl (by rfl) rfl ?_))))))
     refine l_op (x_p (pv_lens (Rd.len hrh) ⟨_,Tryz.underlying112⟩ (.n rfl) rfl rfl rfl rfl fR) rfl rfl (p_mv rfl rfl (o_keep (kp [0,1,5,6,7,49,50,51] rfl) (r_block ?_))))
     refine r_loop_1 (fun (i:Nat)=>[(51,true,.int .i64 (i:Int))]) (kp [0,1,5,6,7,49,50] rfl) (fun (i:Nat)=>shL b s hv ov++blk b7 (rH ⟨d,w.ctr,w.dl⟩) 116::blk b5 (rW w) 93::R) (fun (i:Nat)=>i≤s.holds.length∧scanH s.holds ⟨d,w.ctr,w.dl⟩=scanH (s.holds.drop i) ⟨d,w.ctr,w.dl⟩) (fun (i:Nat)=>s.holds.length - i) (0) ?_ (kp [51] rfl) ?_ (fun i hI=>?_)
     ·exact⟨Nat.zero_le _,rfl⟩
     ·refine Ent.catI ?_;apply eI;repeat constructor
     ·skip
      obtain⟨hil,hI⟩:=hI
      refine r_cat ?_
      refine r_sr (p_lss rfl rfl rfl (o_keep (kp [0,1,5,6,7,49,50,51,52] rfl) (r_seq (r_cond _ rfl (fun h5=>?_) (fun h5=>?_)))))
      ·try simp only[bq1,bq2,bq3,bq4,bq5,bq6,bq7,bq8] at h5
       obtain⟨x,hx⟩:=getlt (l:=s.holds) (i:=i) (by omega)
       have hat:=scanH_at hI hx
       refine r_skip (r_seq (r_block (r_sr (p_idx Tryz.underlying112 (.ofA ta_116) hrh rfl (mapget hx) rfl rfl rfl ?_))))
       refine p_ldats 0 ta_116 (Rd.ent hrh (eJ (by repeat constructor))) (mapget hx) rfl rfl (.s (.s (.s .z))) rfl ?_
       refine p_alloc zr_116 rfl fun b9=>?_
       refine p_store (.ofA ta_116) rfl rfl rfl (by first|rfl|exact rfl) (by first|rfl|exact rfl) (Ins.whole (by simp[*])) ?_
       refine o_keep (.c 0 rfl (.c 1 rfl (.c 5 rfl (.c 6 rfl (.c 7 rfl (.c 9 rfl (.c 49 rfl (.c 50 rfl (.c 51 rfl .n))))))))) (r_seq (r_sr ?_))
       refine p_lda ta_116 rfl (Tk.all rfl) rfl ?_
       refine p_lda ta_116 rfl (Tk.all rfl) rfl ?_
       refine l_op (x_p (pv_aeq (eq_Hold) (.n rfl) rfl rfl rfl fS) rfl rfl (o_keep (kp [0,1,5,6,7,9,49,50,51,57] rfl) (r_cond _ rfl (fun h6=>?_) (fun h6=>?_))))
       ·try simp only[bq1,bq2,bq3,bq4,bq5,bq6,bq7,bq8] at h6
        have hs:=holdS_5 hd hw0 hsh hov (hat.1 h6)
        refine r_sr (p_as rfl rfl (o_keep (kp [0,1,5,6,7,9,49,50,51] rfl) ?_))
        refine r_retv hF rfl (.c (.t rfl) .n) ?_ ?_
        ·refine Ent.catI ?_;rw[hs];refine Ent.c (shopP_close hv ov rfl rfl rfl) ?_;apply eI;repeat constructor
        ·rw[hs];rfl
       ·try simp only[bq1,bq2,bq3,bq4,bq5,bq6,bq7,bq8] at h6
        have hne:=h6
        refine r_skip (r_sr (p_fa fa_116_0 rfl rfl (p_ldc tc_3 rfl (by rfl) rfl ?_)))
        refine p_mv rfl rfl (p_eql rfl rfl rfl (p_mv rfl rfl (l_op (x_p (pv_fa fa_116_1 (.s rfl rfl rfl) rfl rfl gA) rfl rfl (l_op (x_r (q_ldc tc_3 (.s rfl rfl rfl) rfl rfl gA (by rfl)) rfl rfl ?_))))))
        refine l_op (x_p (pv_fa fa_93_0 (.s rfl rfl rfl) rfl rfl gA) rfl rfl (l_op (x_r (q_ldc tc_3 (.s rfl rfl rfl) rfl rfl gA (by rfl)) rfl rfl ?_)))
        refine l_op (x_p (pv_eql (.s rfl rfl rfl) rfl rfl rfl gB) rfl rfl ?_)
        refine l_op (x_p (pv_and (.n rfl) rfl rfl rfl (fun _=>⟨rfl,fun hc=>by first|rfl|(rw[hc];rfl)|simp_all⟩)) rfl rfl ?_)
        refine o_keep (kp [0,1,5,6,7,49,50,51,68] rfl) (r_cond _ rfl (fun h7=>?_) (fun h7=>?_))
        ·try simp only[bq1,bq2,bq3,bq4,bq5,bq6,bq7,bq8] at h7
         have hs:=holdS_5 hd hw0 hsh hov (hat.2.1 hne (by dsimp only;omega) (by dsimp only;omega))
         refine r_sr (p_as rfl rfl (o_keep (kp [0,1,5,6,7,49,50,51] rfl) ?_))
         refine r_retv hF rfl (.c (.t rfl) .n) ?_ ?_
         ·refine Ent.catI ?_;rw[hs];refine Ent.c (shopP_close hv ov rfl rfl rfl) ?_;apply eI;repeat constructor
         ·rw[hs];rfl
        ·try simp only[bq1,bq2,bq3,bq4,bq5,bq6,bq7,bq8] at h7
         have hnx:=hat.2.2 (by dsimp only;omega)
         refine r_skip (r_end (r_region (p_add rfl rfl (by omega) rfl (p_mv rfl rfl (o_keep (kp [0,1,5,6,7,49,50,51] rfl) ?_)))))
         refine r_back_1 (i+1) ?_ ?_ (Keep.app (kp [51] rfl) (kp [0,1,5,6,7,49,50] rfl)) ?_
         ·exact⟨by omega,hnx⟩
         ·omega
         ·refine Ent.catI ?_;apply eI;repeat constructor
      ·try simp only[bq1,bq2,bq3,bq4,bq5,bq6,bq7,bq8] at h5
       have hsc:scanH s.holds ⟨d,w.ctr,w.dl⟩=none:=by rw[hI,List.drop_eq_nil_of_le (by omega)];rfl
       refine r_exit rfl (r_sr (p_fa fa_93_0 rfl rfl (p_ldc tc_3 rfl (by rfl) rfl ?_)))
       refine l_op (x_p (pv_rem (fun _=>by omega) (.n rfl) rfl rfl rfl fS) rfl rfl (p_as rfl rfl (o_keep (kp [0,5,6,7,10] rfl) ?_)))
       rw[Int.tmod_eq_emod_of_nonneg (by omega)]
       refine r_seq ?_
       rcases (by omega:w.ctr % 2=0∨w.ctr % 2=1) with hk|hk
       ·skip
        rw[hk]
        refine r_plan _ [] mo (kp [0,5,6,7,10] rfl) Ent.rfl ?_
        refine yp 0 [.k 0] rfl rfl (by kernel_rfl) (u_mv rfl rfl rfl) (yp 1 [.k 10] rfl rfl (by kernel_rfl) (u_mv rfl rfl rfl) (yp 2 [.o 0] rfl rfl (by kernel_rfl) (u_nil rfl rfl rfl) (yp 3 [.o 2] rfl rfl (by kernel_rfl) (u_fa fa_184_1 rfl rfl rfl) ?_)))
        refine yp 4 [.o 3,.o 1] rfl rfl (by kernel_rfl) (pv_aidx (i:=0) Tryz.underlying105 (.ofA ta_104) (fun hg=>⟨by omega,by omega⟩) (.n rfl) rfl rfl rfl fS) (yr 5 [.o 4] rfl rfl (by kernel_rfl) (fun He=>q_lda ta_104 (.n rfl) rfl rfl fR (by exact (.s (.s (.s .z))))) ?_)
        refine yp 6 [.k 5] rfl rfl (by kernel_rfl) (u_fa fa_93_1 rfl rfl rfl) (yr 7 [.o 6] rfl rfl (by kernel_rfl) (fun He=>u_ldc tc_3 rfl rfl rfl (by rfl)) ?_)
        refine yq 8 [.o 5,.o 7] rfl rfl (by kernel_rfl) (fun He=>rq_call cf_183 (.n rfl) rfl (.c rfl fR (.c rfl fR .n)) (fun hg=>count_Hold _ _ _ _ _ _)) ?_
        refine yp 9 [.o 8] rfl rfl (by kernel_rfl) (u_mv rfl rfl rfl) (yp 10 [.o 9] rfl rfl (by kernel_rfl) (u_ext rfl rfl rfl rfl) (yp 11 [.o 9] rfl rfl (by kernel_rfl) (u_ext rfl rfl rfl rfl) ?_))
        refine qm_alloc zr_104 (i:=12) [] (by kernel_rfl) (by kernel_rfl) rfl rfl rfl rfl (by kernel_rfl) (by kernel_rfl) ⟨_,.n rfl,rfl⟩ rfl fun b11=>?_
        refine qm_store (.ofA ta_104) (i:=13) [.o 12,.o 10] (by kernel_rfl) (by kernel_rfl) rfl rfl rfl (by kernel_rfl) (by kernel_rfl) ⟨_,.n rfl,rfl⟩ rfl rfl rfl rfl rfl rfl (by repeat constructor) ?_
        refine yp 14 [.o 11] rfl rfl (by kernel_rfl) (u_as rfl rfl rfl) ?_
        refine qm_n (by kernel_rfl) (by kernel_rfl) (by kernel_rfl) (by kernel_rfl) (kp [0,6,7,10,11,12] rfl) ?_
        refine r_seq (r_sr (p_mv rfl rfl (p_eql rfl rfl rfl (o_keep (kp [0,6,7,10,11,12,86] rfl) (r_cond _ rfl (fun h8=>?_) (fun h8=>?_))))))
        ·try simp only[bq1,bq2,bq3,bq4,bq5,bq6,bq7,bq8] at h8
         have hz:=h8
         have hs:=holdS_7 hd hw0 hsh hov hsc (by rw[hk,cnt0];exact h8)
         rw[hk,set0,cnt0] at hs
         refine r_seq ?_
         refine r_plan _ [] mo (kp [0,6,7,10,11,12] rfl) Ent.rfl ?_
         refine yp 0 [.k 0] rfl rfl (by kernel_rfl) (u_mv rfl rfl rfl) (yp 1 [.k 10] rfl rfl (by kernel_rfl) (u_mv rfl rfl rfl) (yr 2 [.k 11] rfl rfl (by kernel_rfl) (fun He=>q_lda ta_104 (.n rfl) rfl rfl fR (by exact (.s (.s (.s .z))))) ?_))
         refine yp 3 [.o 0] rfl rfl (by kernel_rfl) (u_nil rfl rfl rfl) (yp 4 [.o 3] rfl rfl (by kernel_rfl) (u_fa fa_184_1 rfl rfl rfl) (yp 5 [.o 4,.o 1] rfl rfl (by kernel_rfl) (pv_aidx (i:=0) Tryz.underlying105 (.ofA ta_104) (fun hg=>⟨by omega,by omega⟩) (.n rfl) rfl rfl rfl fS) ?_))
         refine qb_store (.ofA ta_104) (i:=6) [.o 5,.o 2] (by kernel_rfl) (by kernel_rfl) rfl rfl rfl (by kernel_rfl) (by kernel_rfl) (by kernel_rfl) ⟨_,.n rfl,rfl⟩ rfl rfl rfl rfl rfl rfl (by repeat constructor) ?_
         refine qm_n (by kernel_rfl) (by kernel_rfl) (by kernel_rfl) (by kernel_rfl) (kp [0,6,7,12] rfl) ?_
         refine r_plan (_) ([sl hv 116 3 (s.holds.map rH)]) mo (kp [0,6,7,12] rfl) (SelS.ent) ?_
         refine yp 0 [.k 0] rfl rfl (by kernel_rfl) (u_mv rfl rfl rfl) (yp 1 [.k 0] rfl rfl (by kernel_rfl) (u_mv rfl rfl rfl) (yp 2 [.o 1] rfl rfl (by kernel_rfl) (u_nil rfl rfl rfl) (yp 3 [.o 2] rfl rfl (by kernel_rfl) (u_fa fa_184_2 rfl rfl rfl) (yr 4 [.o 3] rfl rfl (by kernel_rfl) (fun He=>u_ldc tc_112 rfl rfl rfl (by rfl)) ?_))))
         refine yr 5 [.k 7] rfl rfl (by kernel_rfl) (fun He=>q_lda ta_116 (.n rfl) rfl rfl fR (Tk.all rfl)) ?_
         refine qm_bslice1 Tryz.underlying112 (.ofA ta_116) zr_116 rfl (i:=6) [.o 5] (by kernel_rfl) (by kernel_rfl) rfl rfl rfl rfl (by kernel_rfl) (by kernel_rfl) ⟨_,.n rfl,rfl⟩ rfl rfl rfl rfl rfl rfl fun b99=>?_
         refine qa_append Tryz.underlying112 el_116 rfl rfl (i:=7) [.o 4,.o 6] (by kernel_rfl) (by kernel_rfl) rfl rfl rfl rfl (by kernel_rfl) (by kernel_rfl) ⟨_,.n rfl,rfl⟩ rfl rfl rfl (Rd.blit rfl rfl) (by simp;omega) fun v100=>?_
         refine qm_rd v100 fun hr100=>?_
         refine yp 8 [.o 0] rfl rfl (by kernel_rfl) (u_nil rfl rfl rfl) (yp 9 [.o 8] rfl rfl (by kernel_rfl) (u_fa fa_184_2 rfl rfl rfl) ?_)
         refine qb_store (.ofC tc_112) (i:=10) [.o 9,.o 7] (by kernel_rfl) (by kernel_rfl) rfl rfl rfl (by kernel_rfl) (by kernel_rfl) (by kernel_rfl) ⟨_,.n rfl,rfl⟩ rfl rfl rfl hr100.c1 rfl hr100.o1 (by repeat constructor) ?_
         refine qm_n (by kernel_rfl) (by kernel_rfl) (by kernel_rfl) (by kernel_rfl) (kp [6,12] rfl) ?_
         refine r_sr (p_mv rfl rfl (p_as rfl rfl (o_keep (kp [6] rfl) ?_)))
         refine r_retv hF rfl (.c (.t rfl) .n) ?_ ?_
         ·refine Ent.catI ?_;rw[hs];refine Ent.c (shopP_close v100 ov rfl (by simp) rfl) ?_;apply eI;repeat constructor
         ·rw[hs];exact int_eq' hz
        ·try simp only[bq1,bq2,bq3,bq4,bq5,bq6,bq7,bq8] at h8
         have hs:=holdS_6 hd hw0 hsh hov hsc (by rw[hk,cnt0];exact h8)
         rw[hk,cnt0] at hs
         refine r_skip (r_sr (p_mv rfl rfl (p_as rfl rfl (o_keep (kp [6] rfl) ?_))))
         refine r_retv hF rfl (.c (.t rfl) .n) ?_ ?_
         ·refine Ent.catI ?_;rw[hs];refine Ent.c (shopP_close hv ov rfl rfl rfl) ?_;apply eI;repeat constructor
         ·rw[hs];rfl
       ·skip
        rw[hk]
        refine r_plan _ [] mo (kp [0,5,6,7,10] rfl) Ent.rfl ?_
        refine yp 0 [.k 0] rfl rfl (by kernel_rfl) (u_mv rfl rfl rfl) (yp 1 [.k 10] rfl rfl (by kernel_rfl) (u_mv rfl rfl rfl) (yp 2 [.o 0] rfl rfl (by kernel_rfl) (u_nil rfl rfl rfl) (yp 3 [.o 2] rfl rfl (by kernel_rfl) (u_fa fa_184_1 rfl rfl rfl) ?_)))
        refine yp 4 [.o 3,.o 1] rfl rfl (by kernel_rfl) (pv_aidx (i:=1) Tryz.underlying105 (.ofA ta_104) (fun hg=>⟨by omega,by omega⟩) (.n rfl) rfl rfl rfl fS) (yr 5 [.o 4] rfl rfl (by kernel_rfl) (fun He=>q_lda ta_104 (.n rfl) rfl rfl fR (by exact (.s (.s (.s .z))))) ?_)
        refine yp 6 [.k 5] rfl rfl (by kernel_rfl) (u_fa fa_93_1 rfl rfl rfl) (yr 7 [.o 6] rfl rfl (by kernel_rfl) (fun He=>u_ldc tc_3 rfl rfl rfl (by rfl)) ?_)
        refine yq 8 [.o 5,.o 7] rfl rfl (by kernel_rfl) (fun He=>rq_call cf_183 (.n rfl) rfl (.c rfl fR (.c rfl fR .n)) (fun hg=>count_Hold _ _ _ _ _ _)) ?_
        refine yp 9 [.o 8] rfl rfl (by kernel_rfl) (u_mv rfl rfl rfl) (yp 10 [.o 9] rfl rfl (by kernel_rfl) (u_ext rfl rfl rfl rfl) (yp 11 [.o 9] rfl rfl (by kernel_rfl) (u_ext rfl rfl rfl rfl) ?_))
        refine qm_alloc zr_104 (i:=12) [] (by kernel_rfl) (by kernel_rfl) rfl rfl rfl rfl (by kernel_rfl) (by kernel_rfl) ⟨_,.n rfl,rfl⟩ rfl fun b11=>?_
        refine qm_store (.ofA ta_104) (i:=13) [.o 12,.o 10] (by kernel_rfl) (by kernel_rfl) rfl rfl rfl (by kernel_rfl) (by kernel_rfl) ⟨_,.n rfl,rfl⟩ rfl rfl rfl rfl rfl rfl (by repeat constructor) ?_
        refine yp 14 [.o 11] rfl rfl (by kernel_rfl) (u_as rfl rfl rfl) ?_
        refine qm_n (by kernel_rfl) (by kernel_rfl) (by kernel_rfl) (by kernel_rfl) (kp [0,6,7,10,11,12] rfl) ?_
        refine r_seq (r_sr (p_mv rfl rfl (p_eql rfl rfl rfl (o_keep (kp [0,6,7,10,11,12,86] rfl) (r_cond _ rfl (fun h9=>?_) (fun h9=>?_))))))
        ·try simp only[bq1,bq2,bq3,bq4,bq5,bq6,bq7,bq8] at h9
         have hz:=h9
         have hs:=holdS_7 hd hw0 hsh hov hsc (by rw[hk,cnt1];exact h9)
         rw[hk,set1,cnt1] at hs
         refine r_seq ?_
         refine r_plan _ [] mo (kp [0,6,7,10,11,12] rfl) Ent.rfl ?_
         refine yp 0 [.k 0] rfl rfl (by kernel_rfl) (u_mv rfl rfl rfl) (yp 1 [.k 10] rfl rfl (by kernel_rfl) (u_mv rfl rfl rfl) (yr 2 [.k 11] rfl rfl (by kernel_rfl) (fun He=>q_lda ta_104 (.n rfl) rfl rfl fR (by exact (.s (.s (.s .z))))) ?_))
         refine yp 3 [.o 0] rfl rfl (by kernel_rfl) (u_nil rfl rfl rfl) (yp 4 [.o 3] rfl rfl (by kernel_rfl) (u_fa fa_184_1 rfl rfl rfl) (yp 5 [.o 4,.o 1] rfl rfl (by kernel_rfl) (pv_aidx (i:=1) Tryz.underlying105 (.ofA ta_104) (fun hg=>⟨by omega,by omega⟩) (.n rfl) rfl rfl rfl fS) ?_))
         refine qb_store (.ofA ta_104) (i:=6) [.o 5,.o 2] (by kernel_rfl) (by kernel_rfl) rfl rfl rfl (by kernel_rfl) (by kernel_rfl) (by kernel_rfl) ⟨_,.n rfl,rfl⟩ rfl rfl rfl rfl rfl rfl (by repeat constructor) ?_
         refine qm_n (by kernel_rfl) (by kernel_rfl) (by kernel_rfl) (by kernel_rfl) (kp [0,6,7,12] rfl) ?_
         refine r_plan (_) ([sl hv 116 3 (s.holds.map rH)]) mo (kp [0,6,7,12] rfl) (SelS.ent) ?_
         refine yp 0 [.k 0] rfl rfl (by kernel_rfl) (u_mv rfl rfl rfl) (yp 1 [.k 0] rfl rfl (by kernel_rfl) (u_mv rfl rfl rfl) (yp 2 [.o 1] rfl rfl (by kernel_rfl) (u_nil rfl rfl rfl) (yp 3 [.o 2] rfl rfl (by kernel_rfl) (u_fa fa_184_2 rfl rfl rfl) (yr 4 [.o 3] rfl rfl (by kernel_rfl) (fun He=>u_ldc tc_112 rfl rfl rfl (by rfl)) ?_))))
         refine yr 5 [.k 7] rfl rfl (by kernel_rfl) (fun He=>q_lda ta_116 (.n rfl) rfl rfl fR (Tk.all rfl)) ?_
         refine qm_bslice1 Tryz.underlying112 (.ofA ta_116) zr_116 rfl (i:=6) [.o 5] (by kernel_rfl) (by kernel_rfl) rfl rfl rfl rfl (by kernel_rfl) (by kernel_rfl) ⟨_,.n rfl,rfl⟩ rfl rfl rfl rfl rfl rfl fun b99=>?_
         refine qa_append Tryz.underlying112 el_116 rfl rfl (i:=7) [.o 4,.o 6] (by kernel_rfl) (by kernel_rfl) rfl rfl rfl rfl (by kernel_rfl) (by kernel_rfl) ⟨_,.n rfl,rfl⟩ rfl rfl rfl (Rd.blit rfl rfl) (by simp;omega) fun v100=>?_
         refine qm_rd v100 fun hr100=>?_
         refine yp 8 [.o 0] rfl rfl (by kernel_rfl) (u_nil rfl rfl rfl) (yp 9 [.o 8] rfl rfl (by kernel_rfl) (u_fa fa_184_2 rfl rfl rfl) ?_)
         refine qb_store (.ofC tc_112) (i:=10) [.o 9,.o 7] (by kernel_rfl) (by kernel_rfl) rfl rfl rfl (by kernel_rfl) (by kernel_rfl) (by kernel_rfl) ⟨_,.n rfl,rfl⟩ rfl rfl rfl hr100.c1 rfl hr100.o1 (by repeat constructor) ?_
         refine qm_n (by kernel_rfl) (by kernel_rfl) (by kernel_rfl) (by kernel_rfl) (kp [6,12] rfl) ?_
         refine r_sr (p_mv rfl rfl (p_as rfl rfl (o_keep (kp [6] rfl) ?_)))
         refine r_retv hF rfl (.c (.t rfl) .n) ?_ ?_
         ·refine Ent.catI ?_;rw[hs];refine Ent.c (shopP_close v100 ov rfl (by simp) rfl) ?_;apply eI;repeat constructor
         ·rw[hs];exact int_eq' hz
        ·try simp only[bq1,bq2,bq3,bq4,bq5,bq6,bq7,bq8] at h9
         have hs:=holdS_6 hd hw0 hsh hov hsc (by rw[hk,cnt1];exact h9)
         rw[hk,cnt1] at hs
         refine r_skip (r_sr (p_mv rfl rfl (p_as rfl rfl (o_keep (kp [6] rfl) ?_))))
         refine r_retv hF rfl (.c (.t rfl) .n) ?_ ?_
         ·refine Ent.catI ?_;rw[hs];refine Ent.c (shopP_close hv ov rfl rfl rfl) ?_;apply eI;repeat constructor
         ·rw[hs];rfl
theorem take_S{α:Type}{l:List α}{i:Nat}{a:α}(h:l[i]?=some a):l.take (i+1)=l.take i++[a]:=by rw[List.take_add_one,h];rfl
theorem shop_End (M:Amb)(b:Nat)(s:ShopS)(hb1:s.holds.length≤100000)(hb2:s.over.length≤100000)(hc:∀ h∈s.holds,0≤h.ctr)(d:Int)(dn:Bool):FnC Tryz.prog M 175 [ptr b,.int .i64 d,.bool dn] (.int .i64 (endS s d dn).2) [shopP b s] [shopP b (endS s d dn).1]:=by
 refine fnc_intro Tryz.func175 rfl Tryz.ntmps175 rfl fun R F hF=>?_
 refine r_cat ?_
 refine r_ex2 fun hv ov=>?_
 refine r_cat ?_
 refine r_rd hv fun hrh=>?_
 refine r_rd ov fun hro=>?_
 refine r_sr (p_as rfl rfl (o_keep (kp [0,1,2,6] rfl) (r_seq (r_sr (p_mv rfl rfl (p_lss rfl rfl rfl (p_mv rfl rfl ?_)))))))
 refine l_op (x_p (pv_mv (.s rfl rfl rfl) rfl rfl gA) rfl rfl ?_)
 refine l_op (x_p (pv_geq (.s rfl rfl rfl) rfl rfl rfl gB) rfl rfl ?_)
 refine l_op (x_p (pv_or (.n rfl) rfl rfl rfl (fun _=>⟨rfl,fun hc=>by first|rfl|(rw[hc];rfl)|simp_all⟩)) rfl rfl ?_)
 refine o_keep (kp [0,1,2,6,17] rfl) (r_cond _ rfl (fun h1=>?_) (fun h1=>?_))
 ·try simp only[bq1,bq2,bq3,bq4,bq5,bq6,bq7,bq8] at h1
  have hs:=endS_1 (s:=s) (b:=dn) h1
  refine r_sr (p_as rfl rfl (o_keep (kp [0,1,2,6] rfl) ?_))
  refine r_retv hF rfl (.c (.t rfl) .n) ?_ ?_
  ·refine Ent.catI ?_;rw[hs];refine Ent.c (shopP_close hv ov rfl rfl rfl) ?_;apply eI;repeat constructor
  ·rw[hs];rfl
 ·try simp only[bq1,bq2,bq3,bq4,bq5,bq6,bq7,bq8] at h1
  have hd:¬ (d<0∨8≤d):=by omega
  refine r_skip (r_seq (r_sr (p_mv rfl rfl (p_mv rfl rfl ?_))))
  refine p_callv cf_182 (.c rfl (.c rfl .n)) rfl ((shop_ended_o _ b s hv ov d hb2).q) ?_
  refine p_as rfl rfl (o_keep (kp [0,1,2,6,7] rfl) (r_sr (p_mv rfl rfl (p_geq rfl rfl rfl (o_keep (kp [0,1,2,6,7,22] rfl) (r_cond _ rfl (fun h2=>?_) (fun h2=>?_)))))))
  ·try simp only[bq1,bq2,bq3,bq4,bq5,bq6,bq7,bq8] at h2
   obtain⟨j,o,hj,ho,hov⟩:=endI_at (l:=s.over) (d:=d) h2
   have hs:=endS_2 (b:=dn) hd hov
   refine r_seq (r_sr (p_mv rfl rfl (p_nil rfl rfl (p_fa fa_184_3 rfl rfl (p_ldc tc_182 rfl (by rfl) rfl ?_)))))
   refine p_mv rfl rfl (p_idx Tryz.underlying182 (.ofA ta_243) hro hj (mapget ho) rfl rfl rfl (p_faat fa_243_1 (Rd.sh hro (mapget ho)) rfl rfl (p_ldat 1 tc_4 (Rd.ent hro (eJ (by repeat constructor))) (mapget ho) rfl rfl rfl rfl ?_)))
   refine p_mv rfl rfl (l_op (x_p (pv_bne Tryz.underlying4 (.n rfl) rfl rfl rfl fS) rfl rfl (o_keep (kp [0,1,2,6,32] rfl) (r_cond _ rfl (fun h3=>?_) (fun h3=>?_)))))
   ·try simp only[bq1,bq2,bq3,bq4,bq5,bq6,bq7,bq8] at h3
    have hne:=h3
    refine r_sr (p_as rfl rfl (o_keep (kp [0,1,2,6] rfl) ?_))
    refine r_retv hF rfl (.c (.t rfl) .n) ?_ ?_
    ·refine Ent.catI ?_;rw[hs];refine Ent.c (shopP_close hv ov rfl rfl rfl) ?_;apply eI;repeat constructor
    ·rw[hs];exact int_eq' (by simp at hne;simp[hne])
   ·try simp only[bq1,bq2,bq3,bq4,bq5,bq6,bq7,bq8] at h3
    have hne:=h3
    refine r_skip (r_sr (p_as rfl rfl (o_keep (kp [0,1,2,6] rfl) ?_)))
    refine r_retv hF rfl (.c (.t rfl) .n) ?_ ?_
    ·refine Ent.catI ?_;rw[hs];refine Ent.c (shopP_close hv ov rfl rfl rfl) ?_;apply eI;repeat constructor
    ·rw[hs];exact int_eq' (by simp at hne;simp[hne])
  ·try simp only[bq1,bq2,bq3,bq4,bq5,bq6,bq7,bq8] at h2
   have hov:overL s.over d=none:=endI_no (by omega)
   have hs:=endS_3 (b:=dn) hd hov
   refine r_skip (r_sr (p_as rfl rfl (o_keep (kp [0,1,2,6,8] rfl) (r_seq (r_sr (p_mv rfl rfl (p_nil rfl rfl ?_)))))))
   refine p_fa fa_184_2 rfl rfl (p_ldc tc_112 rfl (by rfl) rfl ?_)
   refine l_op (x_p (pv_lens (Rd.len hrh) ⟨_,Tryz.underlying112⟩ (.n rfl) rfl rfl rfl rfl fR) rfl rfl (p_mv rfl rfl (o_keep (kp [0,1,2,6,8,36,37,38] rfl) (r_block ?_))))
   refine r_loop_2 (fun (i:Nat) (rv:Value)=>[(38,true,.int .i64 (i:Int)),(8,true,rv)]) (kp [0,1,2,6,36,37] rfl) (fun (i:Nat) (rv:Value)=>blk b (shC (foldE d dn (s.holds.take i) s) hv ov) 184::sl hv 116 3 (s.holds.map rH)::sl ov 243 2 (s.over.map rO)::sl rv 116 3 ((restH d (s.holds.take i)).map rH)::R) (fun (i:Nat) (rv:Value)=>i≤s.holds.length) (fun (i:Nat) (rv:Value)=>s.holds.length - i) (0) (.slice Option.none 0 0) ?_ (kp [38,8] rfl) ?_ (fun i rv hI=>?_)
   ·exact Nat.zero_le _
   ·show Ent _ (blk b (shC s hv ov) 184::_);apply eI;repeat constructor
   ·skip
    have hil:=hI
    refine r_sr (p_lss rfl rfl rfl (o_keep (kp [0,1,2,6,8,36,37,38,39] rfl) (r_seq (r_cond _ rfl (fun h4=>?_) (fun h4=>?_)))))
    ·try simp only[bq1,bq2,bq3,bq4,bq5,bq6,bq7,bq8] at h4
     obtain⟨x,hx⟩:=getlt (l:=s.holds) (i:=i) (by omega)
     have hxc:=hc x (List.mem_of_getElem? hx)
     have hts:=take_S hx
     have hfe:=foldE_app d dn x (s.holds.take i) s
     have hre:=restH_app d (s.holds.take i) x
     rw[← hts] at hfe hre
     refine r_skip (r_seq (r_block (r_sr (p_idx Tryz.underlying112 (.ofA ta_116) hrh rfl (mapget hx) rfl rfl rfl ?_))))
     refine p_ldats 0 ta_116 (Rd.ent hrh (eJ (by repeat constructor))) (mapget hx) rfl rfl (.s (.s (.s .z))) rfl ?_
     refine p_alloc zr_116 rfl fun b10=>?_
     refine p_store (.ofA ta_116) rfl rfl rfl (by first|rfl|exact rfl) (by first|rfl|exact rfl) (Ins.whole (by simp[*])) ?_
     refine o_keep (.c 0 rfl (.c 1 rfl (.c 2 rfl (.c 6 rfl (.c 8 rfl (.c 10 rfl (.c 36 rfl (.c 37 rfl (.c 38 rfl .n))))))))) (r_seq (r_sr (p_fa fa_116_0 rfl rfl (p_ldc tc_3 rfl (by rfl) rfl ?_))))
     refine p_mv rfl rfl (p_neq rfl rfl rfl (o_keep (kp [0,1,2,6,8,10,36,37,38,45] rfl) (r_cond _ rfl (fun h5=>?_) (fun h5=>?_))))
     ·try simp only[bq1,bq2,bq3,bq4,bq5,bq6,bq7,bq8] at h5
      rw[if_neg h5] at hfe hre
      refine r_sr (p_mv rfl rfl ?_)
      refine p_lda ta_116 rfl (Tk.all rfl) rfl ?_
      refine p_bslice1 Tryz.underlying112 (.ofA ta_116) zr_116 rfl rfl rfl rfl rfl rfl rfl fun b48=>?_
      refine p_append Tryz.underlying112 el_116 rfl rfl rfl rfl rfl (Rd.blit rfl rfl) (by simp;have:=restH_le d (s.holds.take i);simp at this;omega) fun v49=>?_
      refine o_rd v49 fun hr49=>?_
      refine p_as rfl rfl (o_keep (kp [0,1,2,6,8,10,36,37,38] rfl) (r_exit rfl (r_region (p_add rfl rfl (by omega) rfl (p_mv rfl rfl (o_keep (kp [0,1,2,6,8,36,37,38] rfl) ?_))))))
      refine r_back_2 (i+1) (_) ?_ ?_ (Keep.app (kp [38,8] rfl) (kp [0,1,2,6,36,37] rfl)) ?_
      ·omega
      ·omega
      ·rw[hfe,hre,List.map_append];apply eI;repeat constructor
     ·try simp only[bq1,bq2,bq3,bq4,bq5,bq6,bq7,bq8] at h5
      have hxd:x.deal=d:=by simpa using h5
      rw[if_pos hxd] at hfe hre
      refine r_skip (r_sr (p_fa fa_116_1 rfl rfl (p_ldc tc_3 rfl (by rfl) rfl ?_)))
      refine l_op (x_p (pv_rem (fun _=>by omega) (.n rfl) rfl rfl rfl fS) rfl rfl (p_as rfl rfl (o_keep (kp [0,1,2,6,8,10,11,36,37,38] rfl) ?_)))
      rw[Int.tmod_eq_emod_of_nonneg (by omega)]
      rcases (by omega:x.ctr % 2=0∨x.ctr % 2=1) with hk|hk
      ·skip
       rw[hk]
       rw[hk,set0,cnt0] at hfe
       refine r_plan _ [] mo (kp [0,1,2,6,8,10,11,36,37,38] rfl) Ent.rfl ?_
       refine yp 0 [.k 0] rfl rfl (by kernel_rfl) (u_mv rfl rfl rfl) (yp 1 [.k 11] rfl rfl (by kernel_rfl) (u_mv rfl rfl rfl) (yp 2 [.k 0] rfl rfl (by kernel_rfl) (u_mv rfl rfl rfl) (yp 3 [.k 11] rfl rfl (by kernel_rfl) (u_mv rfl rfl rfl) (yp 4 [.o 2] rfl rfl (by kernel_rfl) (u_nil rfl rfl rfl) ?_))))
       refine yp 5 [.o 4] rfl rfl (by kernel_rfl) (u_fa fa_184_1 rfl rfl rfl) (yp 6 [.o 5,.o 3] rfl rfl (by kernel_rfl) (pv_aidx (i:=0) Tryz.underlying105 (.ofA ta_104) (fun hg=>⟨by omega,by omega⟩) (.n rfl) rfl rfl rfl fS) (yr 7 [.o 6] rfl rfl (by kernel_rfl) (fun He=>q_lda ta_104 (.n rfl) rfl rfl fR (by exact (.s (.s (.s .z))))) ?_))
       refine yp 8 [.k 10] rfl rfl (by kernel_rfl) (u_fa fa_116_2 rfl rfl rfl) (yr 9 [.o 8] rfl rfl (by kernel_rfl) (fun He=>u_ldc tc_3 rfl rfl rfl (by rfl)) ?_)
       refine yp 10 [.k 2] rfl rfl (by kernel_rfl) (u_mv rfl rfl rfl) ?_
       refine yq 11 [.o 7,.o 9,.o 10] rfl rfl (by kernel_rfl) (fun He=>rq_call cf_184 (.n rfl) rfl (.c rfl fR (.c rfl fR (.c rfl fR .n))) (fun hg=>count_End _ _ _ _ _ _ _)) ?_
       refine yp 12 [.o 11] rfl rfl (by kernel_rfl) (u_mv rfl rfl rfl) (yp 13 [.o 12] rfl rfl (by kernel_rfl) (u_ext rfl rfl rfl rfl) (yp 14 [.o 12] rfl rfl (by kernel_rfl) (u_ext rfl rfl rfl rfl) (yp 15 [.o 0] rfl rfl (by kernel_rfl) (u_nil rfl rfl rfl) (yp 16 [.o 15] rfl rfl (by kernel_rfl) (u_fa fa_184_1 rfl rfl rfl) ?_))))
       refine yp 17 [.o 16,.o 1] rfl rfl (by kernel_rfl) (pv_aidx (i:=0) Tryz.underlying105 (.ofA ta_104) (fun hg=>⟨by omega,by omega⟩) (.n rfl) rfl rfl rfl fS) ?_
       refine qx_store (ex:=[14]) (.ofA ta_104) (i:=18) [.o 17,.o 13] (by kernel_rfl) (by kernel_rfl) rfl rfl rfl (by kernel_rfl) (by kernel_rfl) (by kernel_rfl) ⟨_,.n rfl,rfl⟩ (exOne (l:=[.o 12]) rfl rfl rfl rfl (by kernel_rfl) rfl (fun He=>PV.rq (u_ext rfl rfl rfl rfl))) rfl rfl rfl rfl rfl rfl (by repeat constructor) ?_
       refine qm_n (by kernel_rfl) (by kernel_rfl) (by kernel_rfl) (by kernel_rfl) (kp [0,1,2,6,8,36,37,38] rfl) ?_
       refine r_end (r_region (p_add rfl rfl (by omega) rfl (p_mv rfl rfl (o_keep (kp [0,1,2,6,8,36,37,38] rfl) ?_))))
       refine r_back_2 (i+1) (rv) ?_ ?_ (Keep.app (kp [38,8] rfl) (kp [0,1,2,6,36,37] rfl)) ?_
       ·omega
       ·omega
       ·rw[hfe,hre,List.append_nil];apply eI;repeat constructor
      ·skip
       rw[hk]
       rw[hk,set1,cnt1] at hfe
       refine r_plan _ [] mo (kp [0,1,2,6,8,10,11,36,37,38] rfl) Ent.rfl ?_
       refine yp 0 [.k 0] rfl rfl (by kernel_rfl) (u_mv rfl rfl rfl) (yp 1 [.k 11] rfl rfl (by kernel_rfl) (u_mv rfl rfl rfl) (yp 2 [.k 0] rfl rfl (by kernel_rfl) (u_mv rfl rfl rfl) (yp 3 [.k 11] rfl rfl (by kernel_rfl) (u_mv rfl rfl rfl) (yp 4 [.o 2] rfl rfl (by kernel_rfl) (u_nil rfl rfl rfl) ?_))))
       refine yp 5 [.o 4] rfl rfl (by kernel_rfl) (u_fa fa_184_1 rfl rfl rfl) (yp 6 [.o 5,.o 3] rfl rfl (by kernel_rfl) (pv_aidx (i:=1) Tryz.underlying105 (.ofA ta_104) (fun hg=>⟨by omega,by omega⟩) (.n rfl) rfl rfl rfl fS) (yr 7 [.o 6] rfl rfl (by kernel_rfl) (fun He=>q_lda ta_104 (.n rfl) rfl rfl fR (by exact (.s (.s (.s .z))))) ?_))
       refine yp 8 [.k 10] rfl rfl (by kernel_rfl) (u_fa fa_116_2 rfl rfl rfl) (yr 9 [.o 8] rfl rfl (by kernel_rfl) (fun He=>u_ldc tc_3 rfl rfl rfl (by rfl)) ?_)
       refine yp 10 [.k 2] rfl rfl (by kernel_rfl) (u_mv rfl rfl rfl) ?_
       refine yq 11 [.o 7,.o 9,.o 10] rfl rfl (by kernel_rfl) (fun He=>rq_call cf_184 (.n rfl) rfl (.c rfl fR (.c rfl fR (.c rfl fR .n))) (fun hg=>count_End _ _ _ _ _ _ _)) ?_
       refine yp 12 [.o 11] rfl rfl (by kernel_rfl) (u_mv rfl rfl rfl) (yp 13 [.o 12] rfl rfl (by kernel_rfl) (u_ext rfl rfl rfl rfl) (yp 14 [.o 12] rfl rfl (by kernel_rfl) (u_ext rfl rfl rfl rfl) (yp 15 [.o 0] rfl rfl (by kernel_rfl) (u_nil rfl rfl rfl) (yp 16 [.o 15] rfl rfl (by kernel_rfl) (u_fa fa_184_1 rfl rfl rfl) ?_))))
       refine yp 17 [.o 16,.o 1] rfl rfl (by kernel_rfl) (pv_aidx (i:=1) Tryz.underlying105 (.ofA ta_104) (fun hg=>⟨by omega,by omega⟩) (.n rfl) rfl rfl rfl fS) ?_
       refine qx_store (ex:=[14]) (.ofA ta_104) (i:=18) [.o 17,.o 13] (by kernel_rfl) (by kernel_rfl) rfl rfl rfl (by kernel_rfl) (by kernel_rfl) (by kernel_rfl) ⟨_,.n rfl,rfl⟩ (exOne (l:=[.o 12]) rfl rfl rfl rfl (by kernel_rfl) rfl (fun He=>PV.rq (u_ext rfl rfl rfl rfl))) rfl rfl rfl rfl rfl rfl (by repeat constructor) ?_
       refine qm_n (by kernel_rfl) (by kernel_rfl) (by kernel_rfl) (by kernel_rfl) (kp [0,1,2,6,8,36,37,38] rfl) ?_
       refine r_end (r_region (p_add rfl rfl (by omega) rfl (p_mv rfl rfl (o_keep (kp [0,1,2,6,8,36,37,38] rfl) ?_))))
       refine r_back_2 (i+1) (rv) ?_ ?_ (Keep.app (kp [38,8] rfl) (kp [0,1,2,6,36,37] rfl)) ?_
       ·omega
       ·omega
       ·rw[hfe,hre,List.append_nil];apply eI;repeat constructor
    ·try simp only[bq1,bq2,bq3,bq4,bq5,bq6,bq7,bq8] at h4
     have hil2:s.holds.length≤i:=by omega
     rw[List.take_of_length_le hil2]
     refine r_exit rfl (r_seq ?_)
     refine r_rd rv fun hrr=>?_
     refine r_region (p_mv rfl rfl (p_mv rfl rfl (p_nil rfl rfl (p_fa fa_184_2 rfl rfl ?_))))
     refine p_store (.ofC tc_112) rfl rfl hrr.c1 rfl hrr.o1 (by repeat constructor) ?_
     refine o_keep (kp [0,1,2,6] rfl) (r_sr (p_mv rfl rfl (p_mv rfl rfl (p_nil rfl rfl (p_fa fa_184_3 rfl rfl (p_ldc tc_182 rfl (by rfl) rfl ?_))))))
     refine p_mv rfl rfl (p_mv rfl rfl ?_)
     refine p_build zr_243 pl_243 (.c rfl fR rfl rfl rfl (by repeat constructor) (.c rfl fR rfl rfl rfl (by repeat constructor) .n)) rfl ?_
     refine p_bslice1 Tryz.underlying182 (.ofA ta_243) zr_243 rfl rfl rfl rfl rfl rfl rfl fun b84=>?_
     refine p_append Tryz.underlying182 el_243 rfl rfl rfl rfl rfl (Rd.blit rfl rfl) (by simp;omega) fun v85=>?_
     refine o_rd v85 fun hr85=>?_
     refine p_nil rfl rfl (p_fa fa_184_3 rfl rfl ?_)
     refine p_store (.ofC tc_182) rfl rfl hr85.c1 rfl hr85.o1 (by repeat constructor) ?_
     refine o_keep (kp [6] rfl) (r_sr (p_as rfl rfl (o_keep (kp [6] rfl) ?_)))
     refine r_retv hF rfl (.c (.t rfl) .n) ?_ ?_
     ·refine Ent.catI ?_;rw[hs];refine Ent.c (shopP_close rv v85 rfl rfl (by simp;rfl)) ?_;apply eI;repeat constructor
     ·rw[hs];rfl
theorem shop_New_none (M:Amb)(no:Int)(ws:List Int)(h6:ws.length=6)(h:newS no ws=none):FnC Tryz.prog M 81 [.int .i64 no,.agg (ws.map vI).toArray] (.pointer Option.none) [] []:=fun R w ho=>
  (shop_New M no ws h6 R w ho).mono fun _ _ ⟨v,H',e,⟨x,h1,h2⟩,ho'⟩=>⟨v,H',e,⟨by rw[h1,h];rfl,by rw[h2,h];rfl⟩,ho'⟩
theorem shop_New_some (M:Amb)(no:Int)(ws:List Int)(h6:ws.length=6){s:ShopS}(h:newS no ws=some s):FnE (α:=Nat) Tryz.prog M 81 [.int .i64 no,.agg (ws.map vI).toArray] [] (fun x=>ptr x) (fun x=>[shopP x s]):=fun R w ho=>
  (shop_New M no ws h6 R w ho).mono fun _ _ ⟨v,H',e,⟨x,h1,h2⟩,ho'⟩=>⟨v,H',e,⟨x,by rw[h1,h];rfl,by rw[h2,h];rfl⟩,ho'⟩
end Go.Proofs.YtmakdilmibjpbaaGreatDoor
