/- The walks of PenW: written by a program of ours (gen.py) over the engine. The walks of PenW2: written by a program of ours (gen.py) over the engine. The walks of PenA: written by a program of ours (gen.py) over the engine. -/
import Derived.Test.YtmakdilmibjpbaaGreatDoorWants
import Derived.Test.YtmakdilmibjpbaaGreatDoorFacts
import Derived.Test.YtmakdilmibjpbaaGreatDoorBoothW
import Derived.Test.YtmakdilmibjpbaaGreatDoorKeepW2
import Derived.Test.YtmakdilmibjpbaaGreatDoorDesks
namespace Go.Proofs.YtmakdilmibjpbaaGreatDoor
open Go Go.RowKit
set_option linter.unusedVariables false
set_option linter.unusedSimpArgs false
set_option maxRecDepth 20000
theorem recF_1{r:Rec}(h:r.kind=1):recF r=if r.done=true then 2 else 0:=by
  unfold recF;cases hd:r.done<;>simp[h,hd]
theorem recF_2{r:Rec}(h:r.kind=2):recF r=if r.ctr≠0∨r.dl≠0 then 2 else 0:=by
  unfold recF;by_cases h1:r.ctr≠0∨r.dl≠0<;>simp[h,h1]
theorem recF_3{r:Rec}(h:r.kind≠1)(h2:r.kind≠2):recF r=10:=by
  unfold recF;simp[h,h2]
def pnNewP (o:Option ShopS)(no:Int)(ws:List Int)(x:Nat):List HP:=match o with|none=>[]|some s=>[penP x ⟨no,ws,s,[]⟩]
theorem ref_RecordFault (M:Amb)(H:List HP)(r:Rec):FnV Tryz.prog M H 147 [.agg (rR r).toArray] (.int .i64 (recF r)):=by
 refine fn_intro Tryz.func147 rfl Tryz.ntmps147 rfl fun F hF=>?_
 refine r_sr (p_box rfl rfl rfl fun b1=>?_)
 refine p_as rfl rfl (o_keep (kp [1,2] rfl) (r_seq (r_sr (p_fa fa_181_0 rfl rfl (p_ldc tc_3 rfl (by rfl) rfl ?_)))))
 refine p_eql rfl rfl rfl (o_keep (kp [1,2,5] rfl) (r_cond _ rfl (fun h1=>?_) (fun h1=>?_)))
 ·skip
  have hk:=recF_1 (r:=r) (of_decide_eq_true h1)
  refine r_seq (r_sr (p_fa fa_181_4 rfl rfl (p_ldc tc_4 rfl (by rfl) rfl ?_)))
  refine o_keep (kp [1,2,7] rfl) (r_cond _ rfl (fun h2=>?_) (fun h2=>?_))
  ·skip
   have hd:r.done=true:=h2
   rw[if_pos hd] at hk
   refine r_sr (p_as rfl rfl (o_keep (kp [1,2] rfl) ?_))
   refine r_retv hF rfl (.c (.t rfl) .n) ?_ ?_
   ·apply eI;repeat constructor
   ·exact int_eq hk.symm
  ·skip
   have hd:r.done=false:=h2
   rw[if_neg (by simp[hd])] at hk
   refine r_skip (r_sr (p_as rfl rfl (o_keep (kp [1,2] rfl) ?_)))
   refine r_retv hF rfl (.c (.t rfl) .n) ?_ ?_
   ·apply eI;repeat constructor
   ·exact int_eq hk.symm
 ·skip
  have hk1:r.kind≠1:=of_decide_eq_false h1
  refine r_skip (r_seq (r_sr (p_fa fa_181_0 rfl rfl (p_ldc tc_3 rfl (by rfl) rfl ?_))))
  refine p_eql rfl rfl rfl (o_keep (kp [1,2,10] rfl) (r_cond _ rfl (fun h3=>?_) (fun h3=>?_)))
  ·skip
   have hk:=recF_2 (r:=r) (of_decide_eq_true h3)
   refine r_seq (r_sr (p_fa fa_181_2 rfl rfl (p_ldc tc_3 rfl (by rfl) rfl ?_)))
   refine p_neq rfl rfl rfl (p_mv rfl rfl (l_op (x_p (pv_fa fa_181_3 (.s rfl rfl rfl) rfl rfl gA) rfl rfl (l_op (x_r (q_ldc tc_3 (.s rfl rfl rfl) rfl rfl gA (by rfl)) rfl rfl ?_)))))
   refine l_op (x_p (pv_neq (.s rfl rfl rfl) rfl rfl rfl gB) rfl rfl ?_)
   refine l_op (x_p (pv_or (.n rfl) rfl rfl rfl (fun _=>⟨rfl,fun hc=>by first|rfl|(rw[hc];rfl)|simp_all⟩)) rfl rfl ?_)
   refine o_keep (kp [2,18] rfl) (r_cond _ rfl (fun h4=>?_) (fun h4=>?_))
   ·skip
    rw[if_pos (by simpa using h4)] at hk
    refine r_sr (p_as rfl rfl (o_keep (kp [2] rfl) ?_))
    refine r_retv hF rfl (.c (.t rfl) .n) ?_ ?_
    ·apply eI;repeat constructor
    ·exact int_eq hk.symm
   ·skip
    rw[if_neg (by simpa using h4)] at hk
    refine r_skip (r_sr (p_as rfl rfl (o_keep (kp [2] rfl) ?_)))
    refine r_retv hF rfl (.c (.t rfl) .n) ?_ ?_
    ·apply eI;repeat constructor
    ·exact int_eq hk.symm
  ·skip
   have hk:=recF_3 hk1 (of_decide_eq_false h3)
   refine r_skip (r_sr (p_as rfl rfl (o_keep (kp [2] rfl) ?_)))
   refine r_retv hF rfl (.c (.t rfl) .n) ?_ ?_
   ·apply eI;repeat constructor
   ·exact int_eq hk.symm
theorem booth_Do (M:Amb)(b:Nat)(s:ShopS)(hI:ShInv s)(r:Rec):FnC Tryz.prog M 120 [ptr b,.agg (rR r).toArray] (.int .i64 (doC s r).2) [boothP b s] [boothP b (doC s r).1]:=by
 refine fnc_intro Tryz.func120 rfl Tryz.ntmps120 rfl fun R F hF=>?_
 refine r_cat ?_
 refine r_sr (p_box rfl rfl rfl fun b3=>?_)
 refine p_as rfl rfl (o_keep (kp [0,3,4] rfl) (r_seq (r_sr ?_)))
 refine p_lda ta_181 rfl (Tk.all rfl) rfl ?_
 refine p_callv cf_147 (.c rfl .n) rfl (ref_RecordFault _ _ r) ?_
 refine p_as rfl rfl (o_keep (kp [0,3,4,5] rfl) (r_sr (p_mv rfl rfl (p_neq rfl rfl rfl (o_keep (kp [0,3,4,5,9] rfl) (r_cond _ rfl (fun h1=>?_) (fun h1=>?_)))))))
 ·skip
  have hd:doC s r=(s,recF r):=by unfold doC;rw[if_pos (by simpa using h1)]
  refine r_sr (p_mv rfl rfl (p_as rfl rfl (o_keep (kp [0,3,4] rfl) ?_)))
  refine r_retv hF rfl (.c (.t rfl) .n) ?_ ?_
  ·refine Ent.catI ?_;rw[hd];refine Ent.c (SelX.ent) ?_;apply eI;repeat constructor
  ·rw[hd];rfl
 ·skip
  have h0:recF r=0:=by simpa using h1
  have hdc:doC s r=doR s r:=by unfold doC;rw[if_neg (by omega)]
  refine r_skip (r_seq (r_sr (p_fa fa_181_0 rfl rfl (p_ldc tc_3 rfl (by rfl) rfl ?_))))
  refine p_eql rfl rfl rfl (o_keep (kp [0,3,4,13] rfl) (r_cond _ rfl (fun h2=>?_) (fun h2=>?_)))
  ·skip
   have hd:doC s r=holdS s r.deal ⟨r.ctr,r.dl⟩:=by rw[hdc];unfold doR;rw[if_pos (of_decide_eq_true h2)]
   refine r_sr (p_mv rfl rfl (p_fa fa_181_1 rfl rfl (p_ldc tc_3 rfl (by rfl) rfl ?_)))
   refine p_fa fa_181_2 rfl rfl (p_ldc tc_3 rfl (by rfl) rfl ?_)
   refine p_fa fa_181_3 rfl rfl (p_ldc tc_3 rfl (by rfl) rfl ?_)
   refine p_build zr_93 pl_93 (.c rfl fR rfl rfl rfl (by repeat constructor) (.c rfl fR rfl rfl rfl (by repeat constructor) .n)) rfl ?_
   refine p_callc cf_148 (.c rfl (.c rfl (.c rfl .n))) rfl (booth_Hold _ b s hI r.deal ⟨r.ctr,r.dl⟩) ?_
   refine p_as rfl rfl (o_keep (kp [0,3,4] rfl) ?_)
   refine r_retv hF rfl (.c (.t rfl) .n) ?_ ?_
   ·refine Ent.catI ?_;rw[hd];refine Ent.c (SelX.ent) ?_;apply eI;repeat constructor
   ·rw[hd];rfl
  ·skip
   have hn1:¬ r.kind=1:=of_decide_eq_false h2
   have hd:doC s r=endS s r.deal r.done:=by rw[hdc];unfold doR;rw[if_neg hn1,if_pos (by rcases recF_ok h0 with h|h;exact absurd h.1 hn1;exact h.1)]
   refine r_skip (r_sr (p_mv rfl rfl (p_fa fa_181_1 rfl rfl (p_ldc tc_3 rfl (by rfl) rfl ?_))))
   refine p_fa fa_181_4 rfl rfl (p_ldc tc_4 rfl (by rfl) rfl ?_)
   refine p_callc cf_149 (.c rfl (.c rfl (.c rfl .n))) rfl (booth_End _ b s hI r.deal r.done) ?_
   refine p_as rfl rfl (o_keep (kp [4] rfl) ?_)
   refine r_retv hF rfl (.c (.t rfl) .n) ?_ ?_
   ·refine Ent.catI ?_;rw[hd];refine Ent.c (SelX.ent) ?_;apply eI;repeat constructor
   ·rw[hd];rfl
theorem pen_New (M:Amb)(no:Int)(ws:List Int)(hws:ws.length=6):FnE (α:=Nat) Tryz.prog M 22 [.int .i64 no,.agg (ws.map vI).toArray] [] (fun x=>newVal (newS no ws) x) (fun x=>pnNewP (newS no ws) no ws x):=by
 refine fne_intro Tryz.func22 rfl Tryz.ntmps22 rfl fun R F hF=>?_
 show Run _ _ _ _ _ _ R
 refine r_sr (p_box rfl rfl rfl fun b3=>?_)
 refine p_as rfl rfl (o_keep (kp [0,3,4] rfl) (r_seq ?_))
 rcases hn:newS no ws with _|s
 ·skip
  refine r_region (p_mv rfl rfl ?_)
  refine p_lda ta_38 rfl (by exact (Tk.all (by first|rfl|assumption|(simp only[List.drop_zero,List.length_map];assumption)|(simp[*];done)))) rfl ?_
  refine p_callc cf_46 (.c rfl (.c rfl .n)) rfl (booth_New_none _ no ws hws hn) ?_
  refine p_as rfl rfl (o_keep (kp [4,5] rfl) (r_seq (r_sr (p_mv rfl rfl (l_op (x_p (pv_peqn Tryz.underlying107 (.n rfl) rfl rfl rfl fS) rfl rfl (o_keep (kp [4,5,10] rfl) (r_cond _ rfl (fun h1=>?_) (fun h1=>?_)))))))))
  ·skip
   refine r_sr (p_as rfl rfl (o_keep (kp [4,5] rfl) ?_))
   refine r_rete (0) hF rfl (.c (.t rfl) .n) ?_ ?_
   ·show Ent _ (pnNewP _ _ _ _++R);rw[hn];show Ent _ R;apply eI;repeat constructor
   ·rw[hn];rfl
  ·simp at h1
 ·skip
  refine r_region (p_mv rfl rfl ?_)
  refine p_lda ta_38 rfl (by exact (Tk.all (by first|rfl|assumption|(simp only[List.drop_zero,List.length_map];assumption)|(simp[*];done)))) rfl ?_
  refine p_calle cf_46 (.c rfl (.c rfl .n)) rfl (booth_New_some _ no ws hws hn) fun bb=>?_
  refine o_cat ?_
  refine p_as rfl rfl (o_keep (kp [4,5] rfl) (r_seq (r_sr (p_mv rfl rfl (l_op (x_p (pv_peqn Tryz.underlying107 (.n rfl) rfl rfl rfl fS) rfl rfl (o_keep (kp [4,5,10] rfl) (r_cond _ rfl (fun h2=>?_) (fun h2=>?_)))))))))
  ·simp at h2
  ·skip
   refine r_skip (r_sr (p_mv rfl rfl ?_))
   refine p_build zr_110 pl_110 (.c rfl fR rfl rfl rfl (by repeat constructor) .n) rfl ?_
   refine p_box rfl rfl rfl fun b13=>?_
   refine p_as rfl rfl (o_keep (kp [4] rfl) ?_)
   refine r_rete (b13) hF rfl (.c (.t rfl) .n) ?_ ?_
   ·show Ent _ (pnNewP _ _ _ _++R);rw[hn];show Ent _ (penP b13 _::R);refine Ent.tr (Ent.slN (E:=181) (sz:=5)) ?_;refine Ent.c (penP_close bb (.slice Option.none 0 0) rfl rfl) ?_;apply eI;repeat constructor
   ·rw[hn];rfl
theorem pen_Do (M:Amb)(b:Nat)(k:KeepS)(hI:KInv k)(r:Rec):FnC Tryz.prog M 146 [ptr b,.agg (rR r).toArray] (.int .i64 (doK k r).2) [penP b k] [penP b (doK k r).1]:=by
 have hkl:=hI.l_le
 refine fnc_intro Tryz.func146 rfl Tryz.ntmps146 rfl fun R F hF=>?_
 refine r_cat ?_
 refine r_ex2 fun bb lv=>?_
 refine r_cat ?_
 refine r_rd lv fun hrl=>?_
 refine r_sr (p_box rfl rfl rfl fun b3=>?_)
 refine p_as rfl rfl (o_keep (kp [0,3,4] rfl) (r_seq ?_))
 refine r_plan (_) ([boothP bb k.shop]) mo (kp [0,3,4] rfl) (SelX.ent) ?_
 refine yp 0 [.k 0] rfl rfl (by kernel_rfl) (u_mv rfl rfl rfl) (yp 1 [.o 0] rfl rfl (by kernel_rfl) (u_nil rfl rfl rfl) (yp 2 [.o 1] rfl rfl (by kernel_rfl) (u_fa fa_110_0 rfl rfl rfl) (yr 3 [.o 2] rfl rfl (by kernel_rfl) (fun He=>u_ldc tc_107 rfl rfl rfl (by rfl)) ?_)))
 refine yr 4 [.k 3] rfl rfl (by kernel_rfl) (fun He=>q_lda ta_181 (.n rfl) rfl rfl fR (Tk.all rfl)) ?_
 refine qb_callc (i:=5) [.o 3,.o 4] (by kernel_rfl) (by kernel_rfl) rfl rfl rfl rfl (by kernel_rfl) (by kernel_rfl) (by kernel_rfl) ⟨_,.n rfl,rfl⟩ cf_120 rfl (.c rfl (.c rfl .n)) (booth_Do _ bb k.shop hI.sh r) ?_
 refine yp 6 [.o 5] rfl rfl (by kernel_rfl) (u_as rfl rfl rfl) ?_
 refine qm_n (by kernel_rfl) (by kernel_rfl) (by kernel_rfl) (by kernel_rfl) (kp [0,3,4,5] rfl) ?_
 refine r_seq (r_sr (p_mv rfl rfl (p_neq rfl rfl rfl (o_keep (kp [0,3,4,5,14] rfl) (r_cond _ rfl (fun h1=>?_) (fun h1=>?_))))))
 ·skip
  have hne:(doC k.shop r).2≠0:=by simpa using h1
  have hd:doK k r=(k,(doC k.shop r).2):=by unfold doK;rw[doC_err hne,if_neg (fun q=>hne q.1)]
  refine r_sr (p_mv rfl rfl (p_as rfl rfl (o_keep (kp [0,3,4] rfl) ?_)))
  refine r_retv hF rfl (.c (.t rfl) .n) ?_ ?_
  ·refine Ent.catI ?_;rw[hd,doC_err hne];refine Ent.c (penP_close bb lv rfl rfl) ?_;apply eI;repeat constructor
  ·rw[hd];rfl
 ·skip
  have h0:(doC k.shop r).2=0:=by simpa using h1
  refine r_skip (r_seq (r_sr (p_as rfl rfl (o_keep (kp [0,3,4,6] rfl) (r_block ?_)))))
  refine r_loop_1 (fun (i:Nat)=>[(6,true,.int .i64 (i:Int))]) (kp [0,3,4] rfl) (fun (i:Nat)=>blk b [ptr bb,lv] 110::sl lv 181 5 (k.l.map rR)::boothP bb (doC k.shop r).1::blk b3 (rR r) 181::R) (fun (i:Nat)=>∀ j:Nat,j<i→k.l[j]?≠some r) (fun (i:Nat)=>k.l.length - i) (0) ?_ (kp [6] rfl) ?_ (fun i hI=>?_)
  ·exact fun j hj=>by omega
  ·apply eI;repeat constructor
  ·skip
   have hJ:=hI
   refine r_seq (r_sr (p_mv rfl rfl (p_mv rfl rfl (p_nil rfl rfl (p_fa fa_110_1 rfl rfl (p_ldc tc_108 rfl (by rfl) rfl ?_))))))
   refine l_op (x_p (pv_lens (Rd.len hrl) ⟨_,Tryz.underlying108⟩ (.n rfl) rfl rfl rfl rfl fR) rfl rfl (p_lss rfl rfl rfl (o_keep (kp [0,3,4,6,22] rfl) (r_cond _ rfl (fun h2=>?_) (fun h2=>?_)))))
   ·skip
    obtain⟨y,hy⟩:=getlt (l:=k.l) (i:=i) (by have:=of_decide_eq_true h2;omega)
    have hil:=(List.getElem?_eq_some_iff.1 hy).1
    refine r_skip (r_seq (r_block (r_seq ?_)))
    refine r_plan _ [] mo (kp [0,3,4,6] rfl) Ent.rfl ?_
    refine yp 0 [.k 0] rfl rfl (by kernel_rfl) (u_mv rfl rfl rfl) (yp 1 [.o 0] rfl rfl (by kernel_rfl) (u_nil rfl rfl rfl) (yp 2 [.o 1] rfl rfl (by kernel_rfl) (u_fa fa_110_1 rfl rfl rfl) (yr 3 [.o 2] rfl rfl (by kernel_rfl) (fun He=>u_ldc tc_108 rfl rfl rfl (by rfl)) ?_)))
    refine yp 4 [.k 6] rfl rfl (by kernel_rfl) (u_mv rfl rfl rfl) (yp 5 [.o 3,.o 4] rfl rfl (by kernel_rfl) (pv_idx Tryz.underlying108 (.ofA ta_181) hrl (fun hg=>⟨rfl,(mapget hy)⟩) (.n rfl) rfl rfl rfl fS) ?_)
    refine yr 6 [.o 5] rfl rfl (by kernel_rfl) (fun He=>rv_ldats (j:=0) ta_181 (Rd.ent hrl (eJ (by repeat constructor))) (fun hg=>(mapget hy)) (.n rfl) rfl rfl fR rfl (.s (.s (.s (.s (.s .z)))))) ?_
    refine yr 7 [.k 3] rfl rfl (by kernel_rfl) (fun He=>q_lda ta_181 (.n rfl) rfl rfl fR (Tk.all rfl)) ?_
    refine yp 8 [.o 6,.o 7] rfl rfl (by kernel_rfl) (pv_aeq (eq_Record) (.n rfl) rfl rfl rfl fS) ?_
    refine qm_n (by kernel_rfl) (by kernel_rfl) (by kernel_rfl) (by kernel_rfl) (kp [0,3,4,6,33] rfl) ?_
    refine r_cond _ rfl (fun h3=>?_) (fun h3=>?_)
    ·skip
     have hyr:y=r:=of_decide_eq_true h3
     have hm:r∈k.l:=hyr▸List.mem_of_getElem? hy
     have hd:doK k r=({k with shop:=(doC k.shop r).1},0):=by unfold doK;rw[if_neg (fun q=>q.2 hm),h0]
     refine r_sr (p_as rfl rfl (o_keep (kp [0,3,4,6] rfl) ?_))
     refine r_retv hF rfl (.c (.t rfl) .n) ?_ ?_
     ·refine Ent.catI ?_;rw[hd];refine Ent.c (penP_close bb lv rfl rfl) ?_;apply eI;repeat constructor
     ·rw[hd];rfl
    ·skip
     have hyr:y≠r:=of_decide_eq_false h3
     refine r_skip (r_end (r_region (p_mv rfl rfl (p_add rfl rfl (by omega) rfl (p_as rfl rfl (o_keep (kp [0,3,4,6] rfl) ?_))))))
     refine r_back_1 (i+1) ?_ ?_ (Keep.app (kp [6] rfl) (kp [0,3,4] rfl)) ?_
     ·exact fun j hj=>if e:j=i then (by rw[e,hy];exact fun q=>hyr (Option.some.inj q)) else hJ j (by omega)
     ·omega
     ·apply eI;repeat constructor
   ·skip
    have hnm:r∉k.l:=fun hm=>by obtain⟨j,hj,e⟩:=List.mem_iff_getElem.1 hm;exact hJ j (by have:=of_decide_eq_false h2;omega) (by rw[List.getElem?_eq_getElem hj,e])
    have hd:doK k r=({k with shop:=(doC k.shop r).1,l:=k.l++[r]},0):=by unfold doK;rw[if_pos ⟨h0,hnm⟩,h0]
    refine r_exit rfl (r_seq ?_)
    refine r_plan (_) ([sl lv 181 5 (k.l.map rR)]) mo (kp [0,3,4] rfl) (SelS.ent) ?_
    refine yp 0 [.k 0] rfl rfl (by kernel_rfl) (u_mv rfl rfl rfl) (yp 1 [.k 0] rfl rfl (by kernel_rfl) (u_mv rfl rfl rfl) (yp 2 [.o 1] rfl rfl (by kernel_rfl) (u_nil rfl rfl rfl) (yp 3 [.o 2] rfl rfl (by kernel_rfl) (u_fa fa_110_1 rfl rfl rfl) (yr 4 [.o 3] rfl rfl (by kernel_rfl) (fun He=>u_ldc tc_108 rfl rfl rfl (by rfl)) ?_))))
    refine yr 5 [.k 3] rfl rfl (by kernel_rfl) (fun He=>q_lda ta_181 (.n rfl) rfl rfl fR (Tk.all rfl)) ?_
    refine qm_bslice1 Tryz.underlying108 (.ofA ta_181) zr_181 rfl (i:=6) [.o 5] (by kernel_rfl) (by kernel_rfl) rfl rfl rfl rfl (by kernel_rfl) (by kernel_rfl) ⟨_,.n rfl,rfl⟩ rfl rfl rfl rfl rfl rfl fun b40=>?_
    refine qa_append Tryz.underlying108 el_181 rfl rfl (i:=7) [.o 4,.o 6] (by kernel_rfl) (by kernel_rfl) rfl rfl rfl rfl (by kernel_rfl) (by kernel_rfl) ⟨_,.n rfl,rfl⟩ rfl rfl rfl (Rd.blit rfl rfl) (by simp;omega) fun v41=>?_
    refine qm_rd v41 fun hr41=>?_
    refine yp 8 [.o 0] rfl rfl (by kernel_rfl) (u_nil rfl rfl rfl) (yp 9 [.o 8] rfl rfl (by kernel_rfl) (u_fa fa_110_1 rfl rfl rfl) ?_)
    refine qb_store (.ofC tc_108) (i:=10) [.o 9,.o 7] (by kernel_rfl) (by kernel_rfl) rfl rfl rfl (by kernel_rfl) (by kernel_rfl) (by kernel_rfl) ⟨_,.n rfl,rfl⟩ rfl rfl rfl hr41.c1 rfl hr41.o1 (by repeat constructor) ?_
    refine qm_n (by kernel_rfl) (by kernel_rfl) (by kernel_rfl) (by kernel_rfl) (kp [4] rfl) ?_
    refine r_sr (p_as rfl rfl (o_keep (kp [4] rfl) ?_))
    refine r_retv hF rfl (.c (.t rfl) .n) ?_ ?_
    ·refine Ent.catI ?_;rw[hd];refine Ent.c (penP_close bb v41 rfl (by simp)) ?_;apply eI;repeat constructor
    ·rw[hd];rfl
end Go.Proofs.YtmakdilmibjpbaaGreatDoor
namespace Go.Proofs.YtmakdilmibjpbaaGreatDoor
open Go Go.RowKit
set_option linter.unusedVariables false
set_option linter.unusedSimpArgs false
set_option maxRecDepth 20000
theorem ref_Replayed (M:Amb)(A:List HP)(no:Int)(ws:List Int)(hws:ws.length=6)(v:Value)(l:List Rec)(hv:Rd M A v 5 (l.map rR))(hb:l.length≤100000):FnE (α:=Nat) Tryz.prog M 75 [.int .i64 no,.agg (ws.map vI).toArray,v] A (fun x=>.tuple #[newVal (replayS no ws l).1 x,.agg (rF (replayS no ws l).2).toArray]) (fun x=>boNewP (replayS no ws l).1 x++A):=by
 refine fne_intro Tryz.func75 rfl Tryz.ntmps75 rfl fun R F hF=>?_
 refine r_sr (p_box rfl rfl rfl fun b4=>?_)
 refine p_as rfl rfl (p_alloc zr_31 rfl fun b7=>?_)
 refine o_keep (kp [0,2,4,6,7] rfl) (r_seq ?_)
 rcases hn:newS no ws with _|s0
 ·skip
  refine r_region (p_mv rfl rfl ?_)
  refine p_lda ta_38 rfl (by exact (Tk.all (by first|rfl|assumption|(simp only[List.drop_zero,List.length_map];assumption)|(simp[*];done)))) rfl ?_
  refine p_callc cf_46 (.c rfl (.c rfl .n)) rfl (booth_New_none _ no ws hws hn) ?_
  refine p_as rfl rfl (o_keep (kp [2,6,7,8] rfl) (r_seq (r_sr (p_mv rfl rfl (l_op (x_p (pv_peqn Tryz.underlying107 (.n rfl) rfl rfl rfl fS) rfl rfl (o_keep (kp [2,6,7,8,15] rfl) (r_cond _ rfl (fun h1=>?_) (fun h1=>?_)))))))))
  ·skip
   have hrep:replayS no ws l=(none,⟨1,-1⟩):=by unfold replayS;rw[hn]
   refine r_sr ?_
   refine p_callv cf_17 (.c rfl (.c rfl .n)) rfl (ref_F _ _ _ _) ?_
   refine p_as rfl rfl ?_
   refine p_store (.ofA ta_31) rfl rfl rfl (by first|rfl|exact rfl) (by simp[vI,Value.oneCell']) (Ins.whole (by simp[*])) ?_
   refine o_keep (.c 2 rfl (.c 6 rfl (.c 7 rfl (.c 8 rfl .n)))) ?_
   refine r_rete (0) hF rfl (.c (.t rfl) (.c (.a rfl ta_31 (.blk (SelB.ent) (Tk.all rfl)) rfl) .n)) ?_ ?_
   ·show Ent _ ((boNewP _ _++A)++R);rw[hrep];show Ent _ (A++R);apply eI;repeat constructor
   ·rw[hrep];rfl
  ·simp at h1
 ·skip
  refine r_region (p_mv rfl rfl ?_)
  refine p_lda ta_38 rfl (by exact (Tk.all (by first|rfl|assumption|(simp only[List.drop_zero,List.length_map];assumption)|(simp[*];done)))) rfl ?_
  refine p_calle cf_46 (.c rfl (.c rfl .n)) rfl (booth_New_some _ no ws hws hn) fun b8=>?_
  refine o_cat ?_
  refine p_as rfl rfl (o_keep (kp [2,6,7,8] rfl) (r_seq (r_sr (p_mv rfl rfl (l_op (x_p (pv_peqn Tryz.underlying107 (.n rfl) rfl rfl rfl fS) rfl rfl (o_keep (kp [2,6,7,8,15] rfl) (r_cond _ rfl (fun h2=>?_) (fun h2=>?_)))))))))
  ·simp at h2
  ·skip
   refine r_skip (r_seq (r_sr (p_as rfl rfl (o_keep (kp [2,6,7,8,9] rfl) (r_block ?_)))))
   refine r_loop_2 (fun (i:Nat) (s:ShopS)=>[(9,true,.int .i64 (i:Int))]) (kp [2,6,7,8] rfl) (fun (i:Nat) (s:ShopS)=>boothP b8 s::blk b7 (rF ⟨0,0⟩) 31::blk b4 (ws.map vI) 38::(A++R)) (fun (i:Nat) (s:ShopS)=>i≤l.length∧ShInv s∧replayS no ws l=replayL s (l.drop i) i) (fun (i:Nat) (s:ShopS)=>l.length - i) (0) (s0) ?_ (kp [9] rfl) ?_ (fun i s hI=>?_)
   ·exact⟨Nat.zero_le _,(newS_ok hn).1,by unfold replayS;rw[hn];rfl⟩
   ·apply eI;repeat constructor
   ·skip
    obtain⟨hil,hS,hR⟩:=hI
    refine r_seq (r_sr (p_mv rfl rfl (p_mv rfl rfl (l_op (x_p (pv_lens hv.len ⟨_,Tryz.underlying108⟩ (.n rfl) rfl rfl rfl rfl fR) rfl rfl (p_lss rfl rfl rfl (o_keep (kp [2,6,7,8,9,20] rfl) (r_cond _ rfl (fun h3=>?_) (fun h3=>?_)))))))))
    ·skip
     obtain⟨r,hr⟩:=getlt (l:=l) (i:=i) (by have:=of_decide_eq_true h3;omega)
     have hil2:=(List.getElem?_eq_some_iff.1 hr).1
     rw[drop_at hr] at hR
     unfold replayL at hR
     refine r_skip (r_seq (r_block (r_sr (p_mv rfl rfl (p_mv rfl rfl (p_mv rfl rfl (p_idx Tryz.underlying108 (.ofA ta_181) hv rfl (mapget hr) rfl rfl rfl ?_)))))))
     refine p_ldats 0 ta_181 (Rd.ent hv (eJ (by repeat constructor))) (mapget hr) rfl rfl (.s (.s (.s (.s (.s .z))))) rfl ?_
     refine p_callc cf_120 (.c rfl (.c rfl .n)) rfl (booth_Do _ b8 s hS r) ?_
     refine p_as rfl rfl (o_keep (kp [2,6,7,8,9,10] rfl) (r_sr (p_mv rfl rfl (p_neq rfl rfl rfl (o_keep (kp [2,6,7,8,9,10,30] rfl) (r_cond _ rfl (fun h4=>?_) (fun h4=>?_)))))))
     ·skip
      have hrep:replayS no ws l=(none,⟨(doC s r).2,i⟩):=by rw[hR,if_pos (by simpa using h4)]
      refine r_sr (p_mv rfl rfl (p_mv rfl rfl ?_))
      refine p_callv cf_17 (.c rfl (.c rfl .n)) rfl (ref_F _ _ _ _) ?_
      refine p_as rfl rfl ?_
      refine p_store (.ofA ta_31) rfl rfl rfl (by first|rfl|exact rfl) (by first|rfl|exact (by first|rfl|simp[vI,Value.oneCell'])) (Ins.whole (by first|rfl|(simp only[List.length_map,List.length_cons,List.length_nil];omega)|(simp[*];done)|(simp[*];rfl))) ?_
      refine o_keep (.c 2 rfl (.c 6 rfl (.c 7 rfl (.c 8 rfl (.c 9 rfl .n))))) ?_
      refine r_rete (0) hF rfl (.c (.t rfl) (.c (.a rfl ta_31 (.blk (SelB.ent) (Tk.all rfl)) rfl) .n)) ?_ ?_
      ·show Ent _ ((boNewP _ _++A)++R);rw[hrep];show Ent _ (A++R);apply eI;repeat constructor
      ·rw[hrep];rfl
     ·skip
      rw[if_neg (by simpa using h4)] at hR
      refine r_skip (r_end (r_region (p_mv rfl rfl (p_add rfl rfl (by omega) rfl (p_as rfl rfl (o_keep (kp [2,6,7,8,9] rfl) ?_))))))
      refine r_back_2 (i+1) ((doC s r).1) ?_ ?_ (Keep.app (kp [9] rfl) (kp [2,6,7,8] rfl)) ?_
      ·exact⟨by omega,hS.doc r,hR⟩
      ·omega
      ·apply eI;repeat constructor
    ·skip
     have hrep:replayS no ws l=(some s,⟨0,0⟩):=by rw[hR,List.drop_eq_nil_of_le (by have:=of_decide_eq_false h3;omega)];rfl
     refine r_exit rfl (r_sr (p_mv rfl rfl ?_))
     refine p_build zr_31 pl_31 (.n) rfl ?_
     refine p_as rfl rfl ?_
     refine p_store (.ofA ta_31) rfl rfl rfl rfl rfl (Ins.whole rfl) ?_
     refine o_keep (kp [6,7] rfl) ?_
     refine r_rete (b8) hF rfl (.c (.t rfl) (.c (.a rfl ta_31 (.blk (SelB.ent) (Tk.all rfl)) rfl) .n)) ?_ ?_
     ·show Ent _ ((boNewP _ _++A)++R);rw[hrep];show Ent _ (boothP b8 s::(A++R));apply eI;repeat constructor
     ·rw[hrep];rfl
theorem pen_New_none (M:Amb)(no:Int)(ws:List Int)(hws:ws.length=6)(h:newS no ws=none):FnC Tryz.prog M 22 [.int .i64 no,.agg (ws.map vI).toArray] (.pointer Option.none) [] []:=fun R w ho=>
  (pen_New M no ws hws R w ho).mono fun _ _ ⟨v,H',e,⟨x,h1,h2⟩,ho'⟩=>⟨v,H',e,⟨by rw[h1,h];rfl,by rw[h2,h];rfl⟩,ho'⟩
theorem pen_New_some (M:Amb)(no:Int)(ws:List Int)(hws:ws.length=6){s:ShopS}(h:newS no ws=some s):FnE (α:=Nat) Tryz.prog M 22 [.int .i64 no,.agg (ws.map vI).toArray] [] (fun x=>ptr x) (fun x=>[penP x ⟨no,ws,s,[]⟩]):=fun R w ho=>
  (pen_New M no ws hws R w ho).mono fun _ _ ⟨v,H',e,⟨x,h1,h2⟩,ho'⟩=>⟨v,H',e,⟨x,by rw[h1,h];rfl,by rw[h2,h];rfl⟩,ho'⟩
end Go.Proofs.YtmakdilmibjpbaaGreatDoor
namespace Go.Proofs.YtmakdilmibjpbaaGreatDoor
open Go Go.RowKit
set_option linter.unusedVariables false
set_option linter.unusedSimpArgs false
set_option maxRecDepth 20000
theorem pen_Answer (M:Amb)(b:Nat)(k:KeepS)(hI:KInv k)(m:Mail):FnC Tryz.prog M 118 [ptr b,vM m] (.tuple #[vM ((ansK k m).2.getD Mail.z0),.bool (ansK k m).2.isSome]) [penP b k] [penP b (ansK k m).1]:=by
 have hno:k.shop.no=k.no:=hI.no
 refine fnc_intro Tryz.func118 rfl Tryz.ntmps118 rfl fun R F hF=>?_
 refine r_cat ?_
 refine r_ex2 fun bb lv=>?_
 refine r_cat ?_
 refine r_rd lv fun hrl=>?_
 refine r_sel (boothP bb k.shop) ?_
 refine r_ex3 fun hv ov dv=>?_
 refine r_cat ?_
 refine r_sr (p_box rfl rfl rfl fun b3=>?_)
 refine p_alloc zr_139 rfl fun b4=>?_
 refine p_as rfl rfl (o_keep (kp [0,3,4,5] rfl) (r_seq (r_seq ?_)))
 refine r_plan _ [] mo (kp [0,3,4,5] rfl) Ent.rfl ?_
 refine yp 0 [.k 3] rfl rfl (by kernel_rfl) (u_fa fa_139_2 rfl rfl rfl) (yr 1 [.o 0] rfl rfl (by kernel_rfl) (fun He=>u_ldc tc_3 rfl rfl rfl (by rfl)) ?_)
 refine yp 2 [.k 0] rfl rfl (by kernel_rfl) (u_mv rfl rfl rfl) (yp 3 [.o 2] rfl rfl (by kernel_rfl) (u_nil rfl rfl rfl) (yp 4 [.o 3] rfl rfl (by kernel_rfl) (u_fa fa_110_0 rfl rfl rfl) (yr 5 [.o 4] rfl rfl (by kernel_rfl) (fun He=>u_ldc tc_107 rfl rfl rfl (by rfl)) ?_)))
 refine yp 6 [.o 5] rfl rfl (by kernel_rfl) (u_nil rfl rfl rfl) (yp 7 [.o 6] rfl rfl (by kernel_rfl) (u_fa fa_114_0 rfl rfl rfl) (yr 8 [.o 7] rfl rfl (by kernel_rfl) (fun He=>u_ldc tc_3 rfl rfl rfl (by rfl)) ?_))
 refine yp 9 [.o 1,.o 8] rfl rfl (by kernel_rfl) (pv_neq (.n rfl) rfl rfl rfl fS) ?_
 refine qm_n (by kernel_rfl) (by kernel_rfl) (by kernel_rfl) (by kernel_rfl) (kp [0,3,4,5,16] rfl) ?_
 refine r_cond _ rfl (fun h1=>?_) (fun h1=>?_)
 ·skip
  have hs:=ansK_1 (k:=k) (m:=m) (by rw[hno] at h1;simpa using h1)
  refine r_sr ?_
  refine p_build zr_139 pl_139 (.n) rfl ?_
  refine p_store (.ofA ta_139) rfl rfl rfl rfl rfl (Ins.whole rfl) ?_
  refine p_as rfl rfl (o_keep (kp [0,3,4,5] rfl) ?_)
  refine r_retv hF rfl (.c (.a rfl ta_139 (.blk (SelB.ent) (Tk.all rfl)) rfl) (.c (.t rfl) .n)) ?_ ?_
  ·refine Ent.catI ?_;rw[hs];refine Ent.tr (boothP_close (b:=bb) (s:=k.shop) hv ov dv rfl rfl rfl rfl) ?_;refine Ent.c (penP_close bb lv rfl rfl) ?_;apply eI;repeat constructor
  ·rw[hs];rfl
 ·skip
  have h0:¬ m.shop≠k.no:=by rw[hno] at h1;simpa using h1
  refine r_skip (r_seq (r_sr (p_fa fa_139_0 rfl rfl (p_ldc tc_3 rfl (by rfl) rfl ?_))))
  refine p_eql rfl rfl rfl (o_keep (kp [0,3,4,5,20] rfl) (r_cond _ rfl (fun h2=>?_) (fun h2=>?_)))
  ·skip
   have hs:=ansK_2 h0 (of_decide_eq_true h2)
   refine r_seq ?_
   refine r_ent (boothP_close (b:=bb) (s:=k.shop) hv ov dv rfl rfl rfl rfl) ?_
   refine r_ent (penP_close (b:=b) (k:=k) bb lv rfl rfl) ?_
   refine r_region (p_mv rfl rfl (p_fa fa_139_1 rfl rfl (p_ldc tc_3 rfl (by rfl) rfl ?_)))
   refine p_fa fa_139_3 rfl rfl (p_fa fa_93_0 rfl rfl (p_ldc tc_3 rfl (by rfl) rfl ?_))
   refine p_fa fa_139_3 rfl rfl (p_fa fa_93_1 rfl rfl (p_ldc tc_3 rfl (by rfl) rfl ?_))
   refine p_build zr_181 pl_181 (.c rfl fR rfl rfl rfl (by repeat constructor) (.c rfl fR rfl rfl rfl (by repeat constructor) (.c rfl fR rfl rfl rfl (by repeat constructor) (.c rfl fR rfl rfl rfl (by repeat constructor) .n)))) rfl ?_
   refine p_callc cf_146 (.c rfl (.c rfl .n)) rfl (pen_Do _ b k hI ⟨1,m.deal,m.ctr,m.dl,false⟩) ?_
   refine p_as rfl rfl (o_keep (kp [0,3,4,5,6] rfl) (r_sr (p_fa fa_139_1 rfl rfl (p_ldc tc_3 rfl (by rfl) rfl ?_))))
   refine p_fa fa_139_2 rfl rfl (p_ldc tc_3 rfl (by rfl) rfl ?_)
   refine p_fa fa_139_3 rfl rfl ?_
   refine p_lda ta_93 rfl (by exact (.s (.s .z))) rfl ?_
   refine p_mv rfl rfl (p_eql rfl rfl rfl ?_)
   refine p_build zr_139 pl_139 (.c rfl fR rfl rfl rfl (by repeat constructor) (.c rfl fR rfl rfl rfl (by repeat constructor) (.c rfl fR rfl rfl rfl (by repeat constructor) (.c rfl fR rfl rfl rfl (by repeat constructor) (.c rfl fR rfl rfl rfl (by repeat constructor) .n))))) rfl ?_
   refine p_store (.ofA ta_139) rfl rfl rfl (by first|rfl|exact rfl) (by first|rfl|exact rfl) (Ins.whole (by simp[*])) ?_
   refine p_as rfl rfl (o_keep (.c 0 rfl (.c 3 rfl (.c 4 rfl (.c 5 rfl .n)))) ?_)
   refine r_retv hF rfl (.c (.a rfl ta_139 (.blk (SelB.ent) (Tk.all rfl)) rfl) (.c (.t rfl) .n)) ?_ ?_
   ·refine Ent.catI ?_;rw[hs];refine Ent.c (SelX.ent) ?_;apply eI;repeat constructor
   ·rw[hs];rfl
  ·skip
   have h1:=of_decide_eq_false h2
   refine r_skip (r_seq (r_seq ?_))
   refine r_ent (boothP_close (b:=bb) (s:=k.shop) hv ov dv rfl rfl rfl rfl) ?_
   refine r_ent (penP_close (b:=b) (k:=k) bb lv rfl rfl) ?_
   refine r_region (p_fa fa_139_0 rfl rfl (p_ldc tc_3 rfl (by rfl) rfl ?_))
   refine p_eql rfl rfl rfl (p_mv rfl rfl ?_)
   refine o_split (t:=44) rfl (fun g3=>?_) (fun g3=>?_)
   ·skip
    have h3:m.kind=3:=by simpa using g3
    refine o_g (.s rfl rfl rfl) rfl (p_mv rfl rfl (o_g (.s rfl rfl rfl) rfl (p_fa fa_139_1 rfl rfl (o_g (.s rfl rfl rfl) rfl (p_ldc tc_3 rfl (by rfl) rfl ?_)))))
    refine o_g (.s rfl rfl rfl) rfl (p_fa fa_139_4 rfl rfl (o_g (.s rfl rfl rfl) rfl (p_ldc tc_4 rfl (by rfl) rfl ?_)))
    refine o_g (.s rfl rfl rfl) rfl ?_
    refine p_build zr_181 pl_181 (.c rfl fR rfl rfl rfl (by repeat constructor) (.c rfl fR rfl rfl rfl (by repeat constructor) (.c rfl fR rfl rfl rfl (by repeat constructor) .n))) rfl ?_
    refine o_g (.s rfl rfl rfl) rfl ?_
    refine p_callc cf_146 (.c rfl (.c rfl .n)) rfl (pen_Do _ b k hI ⟨2,m.deal,0,0,m.yes⟩) ?_
    refine o_g (.s rfl rfl rfl) rfl (p_eql rfl rfl rfl ?_)
    refine l_op (x_p (pv_and (.n rfl) rfl rfl rfl (fun _=>⟨rfl,fun hc=>by first|rfl|(rw[hc];rfl)|simp_all⟩)) rfl rfl ?_)
    refine o_keep (kp [3,4,5,53] rfl) (r_cond _ rfl (fun h4=>?_) (fun h4=>?_))
    ·skip
     have hs:=ansK_4 h0 h1 h3 (by simpa using h4)
     refine r_sr (p_fa fa_139_1 rfl rfl (p_ldc tc_3 rfl (by rfl) rfl ?_))
     refine p_fa fa_139_2 rfl rfl (p_ldc tc_3 rfl (by rfl) rfl ?_)
     refine p_fa fa_139_3 rfl rfl ?_
     refine p_lda ta_93 rfl (by exact (.s (.s .z))) rfl ?_
     refine p_fa fa_139_4 rfl rfl (p_ldc tc_4 rfl (by rfl) rfl ?_)
     refine p_build zr_139 pl_139 (.c rfl fR rfl rfl rfl (by repeat constructor) (.c rfl fR rfl rfl rfl (by repeat constructor) (.c rfl fR rfl rfl rfl (by repeat constructor) (.c rfl fR rfl rfl rfl (by repeat constructor) (.c rfl fR rfl rfl rfl (by repeat constructor) .n))))) rfl ?_
     refine p_store (.ofA ta_139) rfl rfl rfl (by first|rfl|exact rfl) (by first|rfl|exact rfl) (Ins.whole (by simp[*])) ?_
     refine p_as rfl rfl (o_keep (.c 4 rfl (.c 5 rfl .n)) ?_)
     refine r_retv hF rfl (.c (.a rfl ta_139 (.blk (SelB.ent) (Tk.all rfl)) rfl) (.c (.t rfl) .n)) ?_ ?_
     ·refine Ent.catI ?_;rw[hs];refine Ent.c (SelX.ent) ?_;apply eI;repeat constructor
     ·rw[hs];rfl
    ·skip
     have hs:=ansK_3 h0 h1 h3 (by simpa using h4)
     refine r_skip (r_sr ?_)
     refine p_build zr_139 pl_139 (.n) rfl ?_
     refine p_store (.ofA ta_139) rfl rfl rfl rfl rfl (Ins.whole rfl) ?_
     refine p_as rfl rfl (o_keep (kp [4,5] rfl) ?_)
     refine r_retv hF rfl (.c (.a rfl ta_139 (.blk (SelB.ent) (Tk.all rfl)) rfl) (.c (.t rfl) .n)) ?_ ?_
     ·refine Ent.catI ?_;rw[hs];refine Ent.c (SelX.ent) ?_;apply eI;repeat constructor
     ·rw[hs];rfl
   ·skip
    have h3:¬ m.kind=3:=by simpa using g3
    refine o_ng (.s rfl rfl rfl) rfl rfl (o_ng (.s rfl rfl rfl) rfl rfl (o_ng (.s rfl rfl rfl) rfl rfl (o_ng (.s rfl rfl rfl) rfl rfl (o_ng (.s rfl rfl rfl) rfl rfl (o_ng (.s rfl rfl rfl) rfl rfl (o_ng (.s rfl rfl rfl) rfl rfl (o_ng (.s rfl rfl rfl) rfl rfl ?_)))))))
    refine l_op (x_p (pv_andf (.n rfl) rfl rfl fR) rfl rfl (o_keep (kp [3,4,5,53] rfl) (r_cond _ rfl (fun h5=>?_) (fun h5=>?_))))
    ·simp at h5
    ·skip
     have hs:=ansK_5 h0 h1 h3
     refine r_skip (r_sr ?_)
     refine p_build zr_139 pl_139 (.n) rfl ?_
     refine p_store (.ofA ta_139) rfl rfl rfl rfl rfl (Ins.whole rfl) ?_
     refine p_as rfl rfl (o_keep (kp [4,5] rfl) ?_)
     refine r_retv hF rfl (.c (.a rfl ta_139 (.blk (SelB.ent) (Tk.all rfl)) rfl) (.c (.t rfl) .n)) ?_ ?_
     ·refine Ent.catI ?_;rw[hs];refine Ent.c (SelX.ent) ?_;apply eI;repeat constructor
     ·rw[hs];rfl
end Go.Proofs.YtmakdilmibjpbaaGreatDoor
