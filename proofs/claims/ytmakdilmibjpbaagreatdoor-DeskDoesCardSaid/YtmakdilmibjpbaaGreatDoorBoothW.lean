/- Booths and pens: how they lie. The walks of BoothW: written by a program of ours (gen.py) over the engine. The walks of BoothN: written by a program of ours (gen.py) over the engine. -/
import Derived.Test.YtmakdilmibjpbaaGreatDoorDeskP
import Derived.Test.YtmakdilmibjpbaaGreatDoorShopL
import Derived.Test.YtmakdilmibjpbaaGreatDoorWants
import Derived.Test.YtmakdilmibjpbaaGreatDoorFacts
import Derived.Test.YtmakdilmibjpbaaGreatDoorKeepW2
namespace Go.Proofs.YtmakdilmibjpbaaGreatDoor
open Go Go.RowKit
set_option linter.unusedVariables false
set_option maxRecDepth 20000
def dnI (o:Ovr):Int:=if o.done=true then 1 else 0
abbrev boC (s:ShopS)(hv ov dv:Value):List Value:=[.int .i64 s.no,.int .i64 s.c0.v,.int .i64 s.c1.v,hv,ov,dv]
abbrev boL (b:Nat)(s:ShopS)(hv ov dv:Value):List HP:=[blk b (boC s hv ov dv) 114,sl hv 116 3 (s.holds.map rH),sl ov 3 1 ((s.over.map (·.deal)).map rI),sl dv 3 1 ((s.over.map dnI).map rI)]
def boothP (b:Nat)(s:ShopS):HP:=ex3 fun hv ov dv=>boL b s hv ov dv
variable{H R R1 R2 R3:List HP}{b:Nat}{s:ShopS}{k:KeepS}
theorem boothP_close (hv ov dv:Value){cs:List Value}{r1 r2 r3:List (List Value)}[a:SelB H b cs 114 R][t:SelS R hv 116 3 r1 R1][u:SelS R1 ov 3 1 r2 R2][w:SelS R2 dv 3 1 r3 R3](e:cs=boC s hv ov dv)(e1:r1=s.holds.map rH)(e2:r2=(s.over.map (·.deal)).map rI)(e3:r3=(s.over.map dnI).map rI):Ent H (boothP b s::R3):=by
  subst e;subst e1;subst e2;subst e3
  exact Ent.tr (Ent.tr a.ent (Ent.mono (Ent.tr t.ent (Ent.mono (Ent.tr u.ent (Ent.mono w.ent)))))) (Ent.ex3 (L:=fun hv ov dv=>boL b s hv ov dv) hv ov dv)
abbrev pnL (b:Nat)(k:KeepS)(bb:Nat)(lv:Value):List HP:=[blk b [ptr bb,lv] 110,sl lv 181 5 (k.l.map rR),boothP bb k.shop]
def penP (b:Nat)(k:KeepS):HP:=ex2 fun bb lv=>pnL b k bb lv
theorem penP_close (bb:Nat)(lv:Value){cs:List Value}{r1:List (List Value)}[a:SelB H b cs 110 R][t:SelS R lv 181 5 r1 R1][u:SelX R1 (boothP bb k.shop) R2](e:cs=[ptr bb,lv])(e1:r1=k.l.map rR):Ent H (penP b k::R2):=by
  subst e;subst e1
  exact Ent.tr (Ent.tr a.ent (Ent.mono (Ent.tr t.ent (Ent.mono u.ent)))) (Ent.ex2 (L:=fun bb lv=>pnL b k bb lv) bb lv)
theorem overL_hit:∀ {l:List Ovr} {d:Int} {i:Nat} {o:Ovr},l[i]?=some o→o.deal=d→(∀ (j:Nat) x,j<i→l[j]?=some x→decide (x.deal=d)=false)→overL l d=some o.done
  | [],_,_,_,h,_,_=>by simp at h
  | x::l,d,0,o,h,e,_=>by simp at h;subst h;simp[overL,e]
  | x::l,d,i+1,o,h,e,hm=>by
    have h0:=hm 0 x (by omega) (by simp)
    simp only[overL]
    rw[if_neg (by simpa using h0)]
    exact overL_hit (i:=i) (by simpa using h) e (fun j y hj hy=>hm (j+1) y (by omega) (by simpa using hy))
theorem overL_miss{l:List Ovr}{d:Int}(hm:∀ (j:Nat) x,j<l.length→l[j]?=some x→decide (x.deal=d)=false):overL l d=none:=by
  rw[overL_none]
  intro o ho
  obtain⟨i,hi,rfl⟩:=List.mem_iff_getElem.1 ho
  simpa using hm i _ hi (List.getElem?_eq_getElem hi)
def vE (v c d:Int)(dn:Bool)(l:List Hld):Int:=v+(if dn=true then sumH c d l else 0)
theorem dnI_one (o:Ovr):decide (dnI o=1)=o.done:=by unfold dnI;cases o.done<;>simp
end Go.Proofs.YtmakdilmibjpbaaGreatDoor
namespace Go.Proofs.YtmakdilmibjpbaaGreatDoor
open Go Go.RowKit
set_option linter.unusedVariables false
set_option linter.unusedSimpArgs false
set_option maxRecDepth 20000
theorem hold_v{c:Cnt}{n:Int}(h:(hold c n).2=0):(hold c n).1.v=c.v:=by
  rcases (hold_ok h).2.2 with ⟨_,_,e⟩|⟨_,_,e⟩<;>rw[e]
def boNewP (o:Option ShopS)(x:Nat):List HP:=match o with|none=>[]|some s=>[boothP x s]
theorem chk_v{n:Int}:chk ⟨n,0,0⟩≠0↔(n<0∨100<n):=by
  constructor
  · intro h
    by_cases h1:n<0∨100<n
    · exact h1
    · exact absurd (chk_of (by omega)) h
  · intro h e
    have:=chk_ok e;dsimp only at this;omega
theorem booth_New (M:Amb)(no:Int)(ws:List Int)(h6:ws.length=6):FnE (α:=Nat) Tryz.prog M 46 [.int .i64 no,.agg (ws.map vI).toArray] [] (fun x=>newVal (newS no ws) x) (fun x=>boNewP (newS no ws) x):=by
 refine fne_intro Tryz.func46 rfl Tryz.ntmps46 rfl fun R F hF=>?_
 show Run _ _ _ _ _ _ R
 refine r_sr (p_box rfl rfl rfl fun b3=>?_)
 refine p_as rfl rfl (o_keep (kp [0,3,4] rfl) (r_seq (r_sr (p_mv rfl rfl (p_lss rfl rfl rfl (p_mv rfl rfl (l_op (x_p (pv_mv (.s rfl rfl rfl) rfl rfl gA) rfl rfl ?_))))))))
 refine l_op (x_p (pv_geq (.s rfl rfl rfl) rfl rfl rfl gB) rfl rfl ?_)
 refine l_op (x_p (pv_or (.n rfl) rfl rfl rfl (fun _=>⟨rfl,fun hc=>by first|rfl|(rw[hc];rfl)|simp_all⟩)) rfl rfl ?_)
 refine o_keep (kp [0,3,4,13] rfl) (r_cond _ rfl (fun h1=>?_) (fun h1=>?_))
 ·try simp only[bq1,bq2,bq3,bq4,bq5,bq6,bq7,bq8] at h1
  have hn:=newS_1 (ws:=ws) (no:=no) h1
  refine r_sr (p_as rfl rfl (o_keep (kp [0,3,4] rfl) ?_))
  refine r_rete (0) hF rfl (.c (.t rfl) .n) ?_ ?_
  ·show Ent _ (boNewP _ _++R);rw[hn];show Ent _ R;apply eI;repeat constructor
  ·rw[hn];rfl
 ·try simp only[bq1,bq2,bq3,bq4,bq5,bq6,bq7,bq8] at h1
  have hno:¬ (no<0∨3≤no):=by omega
  refine r_skip (r_sr (p_mv rfl rfl ?_))
  refine p_build zr_114 pl_114 (.c rfl fR rfl rfl rfl (by repeat constructor) .n) rfl ?_
  refine p_box rfl rfl rfl fun b16=>?_
  refine p_as rfl rfl (o_keep (kp [0,3,4,5] rfl) (r_seq (r_sr (p_as rfl rfl (o_keep (kp [0,3,4,5,6] rfl) (r_block ?_))))))
  refine r_loop_3 (fun (k:Nat) (a c:Int)=>[(6,true,.int .i64 (k:Int))]) (kp [0,3,4,5] rfl) (fun (k:Nat) (a c:Int)=>blk b16 [.int .i64 no,.int .i64 a,.int .i64 c,.slice Option.none 0 0,.slice Option.none 0 0,.slice Option.none 0 0] 114::blk b3 (ws.map vI) 38::R) (fun (k:Nat) (a c:Int)=>(k=0∧a=0∧c=0)∨(k=1∧a=(ws.getD (no*2).toNat 0)∧c=0∧chk ⟨(ws.getD (no*2).toNat 0),0,0⟩=0)∨(k=2∧a=(ws.getD (no*2).toNat 0)∧c=(ws.getD (no*2+1).toNat 0)∧chk ⟨(ws.getD (no*2).toNat 0),0,0⟩=0∧chk ⟨(ws.getD (no*2+1).toNat 0),0,0⟩=0)) (fun (k:Nat) (a c:Int)=>2 - k) (0) (0) (0) ?_ (kp [6] rfl) ?_ (fun k a c hI=>?_)
  ·exact .inl ⟨rfl,rfl,rfl⟩
  ·apply eI;repeat constructor
  ·skip
   refine r_seq (r_sr (p_mv rfl rfl (p_lss rfl rfl rfl (o_keep (kp [0,3,4,5,6,18] rfl) (r_cond _ rfl (fun h2=>?_) (fun h2=>?_))))))
   ·try simp only[bq1,bq2,bq3,bq4,bq5,bq6,bq7,bq8] at h2
    have hk2:k<2:=by omega
    refine r_skip (r_seq (r_block (r_seq ?_)))
    rcases (show (k=0∧a=0∧c=0)∨(k=1∧a=(ws.getD (no*2).toNat 0)∧c=0∧chk ⟨(ws.getD (no*2).toNat 0),0,0⟩=0) by rcases hI with h|h|h;exact .inl h;exact .inr h;omega) with ⟨rfl,rfl,rfl⟩|⟨rfl,rfl,rfl,hc0⟩
    ·skip
     refine r_region (p_mv rfl rfl (p_mul rfl rfl (by omega) rfl (p_mv rfl rfl (p_add rfl rfl (by omega) rfl (l_op (x_p (pv_aidx (i:=(no*2).toNat) Tryz.underlying38 (.ofC tc_3) (fun hg=>⟨by omega,by omega⟩) (.n rfl) rfl rfl rfl fS) rfl rfl (l_op (x_r (q_ldci (i:=(no*2).toNat) tc_3 (.n rfl) rfl rfl fR (by omega) (wget (by omega))) rfl rfl ?_))))))))
     refine p_as rfl rfl (o_keep (kp [0,3,4,5,6,7] rfl) (r_seq (r_sr (p_mv rfl rfl (p_lss rfl rfl rfl (p_mv rfl rfl (l_op (x_p (pv_mv (.s rfl rfl rfl) rfl rfl gA) rfl rfl ?_))))))))
     refine l_op (x_p (pv_gtr (.s rfl rfl rfl) rfl rfl rfl gB) rfl rfl ?_)
     refine l_op (x_p (pv_or (.n rfl) rfl rfl rfl (fun _=>⟨rfl,fun hc=>by first|rfl|(rw[hc];rfl)|simp_all⟩)) rfl rfl ?_)
     refine o_keep (kp [0,3,4,5,6,7,32] rfl) (r_cond _ rfl (fun h3=>?_) (fun h3=>?_))
     ·try simp only[bq1,bq2,bq3,bq4,bq5,bq6,bq7,bq8] at h3
      have hn:=newS_2 (ws:=ws) hno (chk_v.2 h3)
      refine r_sr (p_as rfl rfl (o_keep (kp [0,3,4,5,6,7] rfl) ?_))
      refine r_rete (0) hF rfl (.c (.t rfl) .n) ?_ ?_
      ·show Ent _ (boNewP _ _++R);rw[hn];show Ent _ R;apply eI;repeat constructor
      ·rw[hn];rfl
     ·try simp only[bq1,bq2,bq3,bq4,bq5,bq6,bq7,bq8] at h3
      have hk0:chk ⟨ws.getD (no*2).toNat 0,0,0⟩=0:=chk_of (by omega)
      refine r_skip (r_region (p_mv rfl rfl (p_mv rfl rfl (p_mv rfl rfl (p_nil rfl rfl (p_fa fa_114_1 rfl rfl (l_op (x_p (pv_aidx (i:=0) Tryz.underlying111 (.ofC tc_3) (fun hg=>⟨rfl,by omega⟩) (.n rfl) rfl rfl rfl fS) rfl rfl ?_))))))))
      refine p_store (.ofC tc_3) rfl rfl rfl rfl rfl (by repeat constructor) ?_
      refine o_keep (kp [0,3,4,5,6] rfl) (r_end (r_region (p_mv rfl rfl (p_add rfl rfl (by omega) rfl (p_as rfl rfl (o_keep (kp [0,3,4,5,6] rfl) ?_))))))
      refine r_back_3 (1) ((ws.getD (no*2).toNat 0)) (0) ?_ ?_ (Keep.app (kp [6] rfl) (kp [0,3,4,5] rfl)) ?_
      ·exact .inr (.inl ⟨rfl,rfl,rfl,hk0⟩)
      ·omega
      ·apply eI;repeat constructor
    ·skip
     refine r_region (p_mv rfl rfl (p_mul rfl rfl (by omega) rfl (p_mv rfl rfl (p_add rfl rfl (by omega) rfl (l_op (x_p (pv_aidx (i:=(no*2+1).toNat) Tryz.underlying38 (.ofC tc_3) (fun hg=>⟨by omega,by omega⟩) (.n rfl) rfl rfl rfl fS) rfl rfl (l_op (x_r (q_ldci (i:=(no*2+1).toNat) tc_3 (.n rfl) rfl rfl fR (by omega) (wget (by omega))) rfl rfl ?_))))))))
     refine p_as rfl rfl (o_keep (kp [0,3,4,5,6,7] rfl) (r_seq (r_sr (p_mv rfl rfl (p_lss rfl rfl rfl (p_mv rfl rfl (l_op (x_p (pv_mv (.s rfl rfl rfl) rfl rfl gA) rfl rfl ?_))))))))
     refine l_op (x_p (pv_gtr (.s rfl rfl rfl) rfl rfl rfl gB) rfl rfl ?_)
     refine l_op (x_p (pv_or (.n rfl) rfl rfl rfl (fun _=>⟨rfl,fun hc=>by first|rfl|(rw[hc];rfl)|simp_all⟩)) rfl rfl ?_)
     refine o_keep (kp [0,3,4,5,6,7,32] rfl) (r_cond _ rfl (fun h4=>?_) (fun h4=>?_))
     ·try simp only[bq1,bq2,bq3,bq4,bq5,bq6,bq7,bq8] at h4
      have hn:=newS_3 (ws:=ws) hno hc0 (chk_v.2 h4)
      refine r_sr (p_as rfl rfl (o_keep (kp [0,3,4,5,6,7] rfl) ?_))
      refine r_rete (0) hF rfl (.c (.t rfl) .n) ?_ ?_
      ·show Ent _ (boNewP _ _++R);rw[hn];show Ent _ R;apply eI;repeat constructor
      ·rw[hn];rfl
     ·try simp only[bq1,bq2,bq3,bq4,bq5,bq6,bq7,bq8] at h4
      have hk1:chk ⟨ws.getD (no*2+1).toNat 0,0,0⟩=0:=chk_of (by omega)
      refine r_skip (r_region (p_mv rfl rfl (p_mv rfl rfl (p_mv rfl rfl (p_nil rfl rfl (p_fa fa_114_1 rfl rfl (l_op (x_p (pv_aidx (i:=1) Tryz.underlying111 (.ofC tc_3) (fun hg=>⟨rfl,by omega⟩) (.n rfl) rfl rfl rfl fS) rfl rfl ?_))))))))
      refine p_store (.ofC tc_3) rfl rfl rfl rfl rfl (by repeat constructor) ?_
      refine o_keep (kp [0,3,4,5,6] rfl) (r_end (r_region (p_mv rfl rfl (p_add rfl rfl (by omega) rfl (p_as rfl rfl (o_keep (kp [0,3,4,5,6] rfl) ?_))))))
      refine r_back_3 (2) ((ws.getD (no*2).toNat 0)) ((ws.getD (no*2+1).toNat 0)) ?_ ?_ (Keep.app (kp [6] rfl) (kp [0,3,4,5] rfl)) ?_
      ·exact .inr (.inr ⟨rfl,rfl,rfl,hc0,hk1⟩)
      ·omega
      ·apply eI;repeat constructor
   ·try simp only[bq1,bq2,bq3,bq4,bq5,bq6,bq7,bq8] at h2
    have hk2:¬ k<2:=by omega
    rcases hI with ⟨rfl,_⟩|⟨rfl,_⟩|⟨rfl,rfl,rfl,hc0,hc1⟩;omega;omega
    have hn:=newS_4 (ws:=ws) hno hc0 hc1
    refine r_exit rfl (r_sr (p_mv rfl rfl (p_as rfl rfl (o_keep (kp [4] rfl) ?_))))
    refine r_rete (b16) hF rfl (.c (.t rfl) .n) ?_ ?_
    ·show Ent _ (boNewP _ _++R);rw[hn];show Ent _ (boothP b16 _::R);refine Ent.tr (Ent.slN (E:=3) (sz:=1)) (Ent.tr (Ent.slN (E:=3) (sz:=1)) (Ent.tr (Ent.slN (E:=116) (sz:=3)) ?_));refine Ent.c (boothP_close (.slice Option.none 0 0) (.slice Option.none 0 0) (.slice Option.none 0 0) rfl rfl rfl rfl) ?_;apply eI;repeat constructor
    ·rw[hn];rfl
theorem booth_Over_o (M:Amb)(b:Nat)(s:ShopS)(hv ov dv:Value)(hb:s.over.length≤100000)(d:Int):FnC Tryz.prog M 166 [ptr b,.int .i64 d] (.tuple #[.bool (overL s.over d).isSome,.bool ((overL s.over d).getD false)]) (boL b s hv ov dv) (boL b s hv ov dv):=by
 refine fnc_intro Tryz.func166 rfl Tryz.ntmps166 rfl fun R F hF=>?_
 refine r_cat ?_
 refine r_rd ov fun hro=>?_
 refine r_rd dv fun hrd=>?_
 refine r_sr (p_as rfl rfl (p_as rfl rfl (o_keep (kp [0,1,4,5] rfl) (r_seq (r_sr (p_as rfl rfl (o_keep (kp [0,1,4,5,6] rfl) ?_)))))))
 refine r_block ?_
 refine r_loop_1 (fun (i:Nat)=>[(6,true,.int .i64 (i:Int))]) (kp [0,1,4,5] rfl) (fun (i:Nat)=>boL b s hv ov dv++R) (fun (i:Nat)=>i≤s.over.length∧∀ (j:Nat) x,j<i→s.over[j]?=some x→decide (x.deal=d)=false) (fun (i:Nat)=>s.over.length - i) (0) ?_ (kp [6] rfl) ?_ (fun i hI=>?_)
 ·exact⟨Nat.zero_le _,fun j x hj=>by omega⟩
 ·refine Ent.catI ?_;apply eI;repeat constructor
 ·skip
  obtain⟨_,hI⟩:=hI
  refine r_cat ?_
  refine r_seq (r_sr (p_mv rfl rfl (p_mv rfl rfl (p_nil rfl rfl (p_fa fa_114_3 rfl rfl (p_ldc tc_65 rfl (by rfl) rfl ?_))))))
  refine l_op (x_p (pv_lens (Rd.len hro) ⟨_,Tryz.underlying65⟩ (.n rfl) rfl rfl rfl rfl fR) rfl rfl (p_lss rfl rfl rfl (o_keep (kp [0,1,4,5,6,13] rfl) (r_cond _ rfl (fun h1=>?_) (fun h1=>?_)))))
  ·skip
   obtain⟨o,ho⟩:=getlt (l:=s.over) (i:=i) (by have:=of_decide_eq_true h1;simp at this;omega)
   have hil:=(List.getElem?_eq_some_iff.1 ho).1
   refine r_skip (r_seq (r_block (r_sr (p_mv rfl rfl (p_nil rfl rfl (p_fa fa_114_3 rfl rfl (p_ldc tc_65 rfl (by rfl) rfl ?_)))))))
   refine p_mv rfl rfl (p_idx Tryz.underlying65 (.ofC tc_3) hro rfl (mapget (mapget ho)) rfl rfl rfl (p_ldat 0 tc_3 (Rd.ent hro (eJ (by repeat constructor))) (mapget (mapget ho)) rfl rfl rfl rfl ?_))
   refine p_mv rfl rfl (p_eql rfl rfl rfl (o_keep (kp [0,1,4,5,6,24] rfl) (r_cond _ rfl (fun h2=>?_) (fun h2=>?_))))
   ·skip
    have hoh:=overL_hit ho (of_decide_eq_true h2) hI
    refine r_seq ?_
    refine r_plan _ [] mo (kp [0,1,6] rfl) Ent.rfl ?_
    refine yp 0 [.k 0] rfl rfl (by kernel_rfl) (u_mv rfl rfl rfl) (yp 1 [.o 0] rfl rfl (by kernel_rfl) (u_nil rfl rfl rfl) (yp 2 [.o 1] rfl rfl (by kernel_rfl) (u_fa fa_114_4 rfl rfl rfl) (yr 3 [.o 2] rfl rfl (by kernel_rfl) (fun He=>u_ldc tc_65 rfl rfl rfl (by rfl)) ?_)))
    refine yp 4 [.k 6] rfl rfl (by kernel_rfl) (u_mv rfl rfl rfl) (yp 5 [.o 3,.o 4] rfl rfl (by kernel_rfl) (pv_idx Tryz.underlying65 (.ofC tc_3) hrd (fun hg=>⟨rfl,(mapget (mapget ho))⟩) (.n rfl) rfl rfl rfl fS) ?_)
    refine yr 6 [.o 5] rfl rfl (by kernel_rfl) (fun He=>rv_ldat (j:=0) tc_3 (Rd.ent hrd (eJ (by repeat constructor))) (fun hg=>(mapget (mapget ho))) (.n rfl) rfl rfl fR rfl fR) ?_
    refine yp 7 [.o 6] rfl rfl (by kernel_rfl) (pv_eql (.n rfl) rfl rfl rfl fS) (yp 8 [] rfl rfl (by kernel_rfl) (u_as rfl rfl rfl) (yp 9 [.o 7] rfl rfl (by kernel_rfl) (u_as rfl rfl rfl) ?_))
    refine qm_n (by kernel_rfl) (by kernel_rfl) (by kernel_rfl) (by kernel_rfl) (kp [0,1,4,5,6] rfl) ?_
    refine r_retv hF rfl (.c (.t rfl) (.c (.t rfl) .n)) ?_ ?_
    ·refine Ent.catI ?_;apply eI;repeat constructor
    ·exact tup2 (by rw[hoh];rfl) (by rw[hoh,dnI_one];rfl)
   ·skip
    have hon:=h2
    refine r_skip (r_end (r_region (p_mv rfl rfl (p_add rfl rfl (by omega) rfl (p_as rfl rfl (o_keep (kp [0,1,4,5,6] rfl) ?_))))))
    refine r_back_1 (i+1) ?_ ?_ (Keep.app (kp [6] rfl) (kp [0,1,4,5] rfl)) ?_
    ·exact⟨by omega,idx_step hI ho hon⟩
    ·omega
    ·refine Ent.catI ?_;apply eI;repeat constructor
  ·skip
   have hil:s.over.length≤i:=by have:=of_decide_eq_false h1;simp at this;omega
   have hom:=overL_miss (l:=s.over) (d:=d) fun j x hj=>hI j x (by omega)
   refine r_exit rfl (r_sr (p_as rfl rfl (p_as rfl rfl (o_keep (kp [4,5] rfl) ?_))))
   refine r_retv hF rfl (.c (.t rfl) (.c (.t rfl) .n)) ?_ ?_
   ·refine Ent.catI ?_;apply eI;repeat constructor
   ·exact tup2 (by rw[hom];rfl) (by rw[hom];rfl)
theorem booth_Counts_o (M:Amb)(b:Nat)(s:ShopS)(hS:ShInv s)(hv ov dv:Value):FnC Tryz.prog M 44 [ptr b] (.agg (cntL s.c0++cntL s.c1).toArray) (boL b s hv ov dv) (boL b s hv ov dv):=by
 have hh1:=hS.holds_le
 have hno0:=hS.no0
 have hno3:=hS.no3
 refine fnc_intro Tryz.func44 rfl Tryz.ntmps44 rfl fun R F hF=>?_
 refine r_cat ?_
 refine r_rd hv fun hrh=>?_
 refine r_sr (p_alloc zr_105 rfl fun b2=>?_)
 refine o_keep (kp [0,2] rfl) (r_sr (p_alloc zr_105 rfl fun b3=>?_))
 refine o_keep (kp [0,2,3] rfl) (r_seq (r_sr (p_as rfl rfl (o_keep (kp [0,2,3,4] rfl) (r_block ?_)))))
 refine r_loop_2 (fun (k:Nat) (cs:List Value)=>[(4,true,.int .i64 (k:Int))]) (kp [0,2,3] rfl) (fun (k:Nat) (cs:List Value)=>blk b3 cs 105::blk b2 ([.int .i64 0,.int .i64 0,.int .i64 0]++[.int .i64 0,.int .i64 0,.int .i64 0]) 105::(boL b s hv ov dv++R)) (fun (k:Nat) (cs:List Value)=>(k=0∧cs=[.int .i64 0,.int .i64 0,.int .i64 0]++[.int .i64 0,.int .i64 0,.int .i64 0])∨(k=1∧cs=cntL s.c0++[.int .i64 0,.int .i64 0,.int .i64 0])∨(k=2∧cs=cntL s.c0++cntL s.c1)) (fun (k:Nat) (cs:List Value)=>2 - k) (0) ([.int .i64 0,.int .i64 0,.int .i64 0]++[.int .i64 0,.int .i64 0,.int .i64 0]) ?_ (kp [4] rfl) ?_ (fun k cs hI=>?_)
 ·exact .inl ⟨rfl,rfl⟩
 ·refine Ent.c (SelB.ent) ?_;refine Ent.c (SelB.ent) ?_;refine Ent.catI ?_;apply eI;repeat constructor
 ·skip
  refine r_cat2 ?_
  refine r_seq (r_sr (p_mv rfl rfl (p_lss rfl rfl rfl (o_keep (kp [0,2,3,4,8] rfl) (r_cond _ rfl (fun h1=>?_) (fun h1=>?_))))))
  ·skip
   have hk2:k<2:=by have:=of_decide_eq_true h1;omega
   refine r_skip (r_seq (r_block (r_seq ?_)))
   rcases (show (k=0∧cs=[.int .i64 0,.int .i64 0,.int .i64 0]++[.int .i64 0,.int .i64 0,.int .i64 0])∨(k=1∧cs=cntL s.c0++[.int .i64 0,.int .i64 0,.int .i64 0]) by rcases hI with h|h|h;exact .inl h;exact .inr h;omega) with ⟨rfl,rfl⟩|⟨rfl,rfl⟩
   ·skip
    refine r_region (p_mv rfl rfl (p_mv rfl rfl (p_mv rfl rfl (p_nil rfl rfl (p_fa fa_114_1 rfl rfl (l_op (x_p (pv_aidx (i:=0) Tryz.underlying111 (.ofC tc_3) (fun hg=>⟨rfl,by omega⟩) (.n rfl) rfl rfl rfl fS) rfl rfl (l_op (x_r (u_ldc tc_3 rfl rfl rfl (by rfl)) rfl rfl ?_)))))))))
    refine l_op (x_p (pv_aidx (i:=0) Tryz.underlying105 (.ofA ta_104) (fun hg=>⟨rfl,by omega⟩) (.n rfl) rfl rfl rfl fS) rfl rfl (p_fa fa_104_0 rfl rfl ?_))
    refine p_store (.ofC tc_3) rfl rfl rfl rfl rfl (by repeat constructor) ?_
    refine o_keep (kp [0,2,3,4] rfl) (r_sr (p_as rfl rfl (o_keep (kp [0,2,3,4,5] rfl) (r_block ?_))))
    refine r_loop_3 (fun (j:Nat) (o n:Int)=>[(5,true,.int .i64 (j:Int))]) (kp [0,2,3,4] rfl) (fun (j:Nat) (o n:Int)=>blk b3 ([.int .i64 s.c0.v,.int .i64 o,.int .i64 n]++[.int .i64 0,.int .i64 0,.int .i64 0]) 105::blk b2 ([.int .i64 0,.int .i64 0,.int .i64 0]++[.int .i64 0,.int .i64 0,.int .i64 0]) 105::(boL b s hv ov dv++R)) (fun (j:Nat) (o n:Int)=>j≤s.holds.length∧o=outH (2*s.no) (s.holds.take j)∧n=inH (2*s.no) (s.holds.take j)) (fun (j:Nat) (o n:Int)=>s.holds.length - j) (0) (0) (0) ?_ (kp [5] rfl) ?_ (fun j o n hI=>?_)
    ·exact⟨Nat.zero_le _,rfl,rfl⟩
    ·refine Ent.c (SelB.ent) ?_;refine Ent.c (SelB.ent) ?_;refine Ent.catI ?_;apply eI;repeat constructor
    ·skip
     obtain⟨hjl,rfl,rfl⟩:=hI
     refine r_cat2 ?_
     refine r_seq (r_sr (p_mv rfl rfl (p_mv rfl rfl (p_nil rfl rfl (p_fa fa_114_2 rfl rfl (p_ldc tc_112 rfl (by rfl) rfl ?_))))))
     refine l_op (x_p (pv_lens (Rd.len hrh) ⟨_,Tryz.underlying112⟩ (.n rfl) rfl rfl rfl rfl fR) rfl rfl (p_lss rfl rfl rfl (o_keep (kp [0,2,3,4,5,26] rfl) (r_cond _ rfl (fun h2=>?_) (fun h2=>?_)))))
     ·skip
      have hj:j<s.holds.length:=by have:=of_decide_eq_true h2;omega
      obtain⟨hh0,hh⟩:=getlt hj
      obtain⟨hta,htb⟩:=outH_take hh (2*s.no)
      have hdl0:=hS.dl hh0 (List.mem_of_getElem? hh)
      have hbo:=outH_le (l:=s.holds.take j) (fun y hy=>hS.dl y (List.mem_of_mem_take hy)) (2*s.no)
      have hbn:=outH_nn (2*s.no) (s.holds.take j)
      have hbm:=inH_nn (2*s.no) (s.holds.take j)
      have htl:=take_len (l:=s.holds) (i:=j) (by omega)
      refine r_skip (r_seq (r_block (r_sr (p_mv rfl rfl (p_nil rfl rfl (p_fa fa_114_2 rfl rfl (p_ldc tc_112 rfl (by rfl) rfl ?_)))))))
      refine p_mv rfl rfl (p_idx Tryz.underlying112 (.ofA ta_116) hrh rfl (mapget hh) rfl rfl rfl ?_)
      refine p_ldats 0 ta_116 (Rd.ent hrh (eJ (by repeat constructor))) (mapget hh) rfl rfl (.s (.s (.s .z))) rfl ?_
      refine p_alloc zr_116 rfl fun b6=>?_
      refine p_store (.ofA ta_116) rfl rfl rfl (by first|rfl|exact rfl) (by first|rfl|exact rfl) (Ins.whole (by simp[*])) ?_
      refine o_keep (.c 0 rfl (.c 2 rfl (.c 3 rfl (.c 4 rfl (.c 5 rfl (.c 6 rfl .n)))))) (r_seq ?_)
      refine r_plan _ [] mo (kp [0,2,3,4,5,6] rfl) Ent.rfl ?_
      refine yp 0 [.k 6] rfl rfl (by kernel_rfl) (u_fa fa_116_1 rfl rfl rfl) (yr 1 [.o 0] rfl rfl (by kernel_rfl) (fun He=>u_ldc tc_3 rfl rfl rfl (by rfl)) ?_)
      refine yp 2 [.k 0] rfl rfl (by kernel_rfl) (u_mv rfl rfl rfl) (yp 3 [.o 2] rfl rfl (by kernel_rfl) (u_nil rfl rfl rfl) (yp 4 [.o 3] rfl rfl (by kernel_rfl) (u_fa fa_114_0 rfl rfl rfl) (yr 5 [.o 4] rfl rfl (by kernel_rfl) (fun He=>u_ldc tc_3 rfl rfl rfl (by rfl)) ?_)))
      refine yp 6 [.o 5] rfl rfl (by kernel_rfl) (pv_mul (fun _=>by omega) (.n rfl) rfl rfl rfl fS) (yp 7 [.k 4] rfl rfl (by kernel_rfl) (u_mv rfl rfl rfl) (yp 8 [.o 6,.o 7] rfl rfl (by kernel_rfl) (pv_add (fun _=>by omega) (.n rfl) rfl rfl rfl fS) ?_))
      refine yp 9 [.o 1,.o 8] rfl rfl (by kernel_rfl) (pv_eql (.n rfl) rfl rfl rfl fS) ?_
      refine qm_n (by kernel_rfl) (by kernel_rfl) (by kernel_rfl) (by kernel_rfl) (kp [0,2,3,4,5,6,45] rfl) ?_
      refine r_cond _ rfl (fun h3=>?_) (fun h3=>?_)
      ·skip
       have hcy:hh0.ctr=2*s.no:=by simp at h3;omega
       refine r_sr (p_fa fa_116_2 rfl rfl (p_ldc tc_3 rfl (by rfl) rfl ?_))
       refine p_lss rfl rfl rfl (o_keep (kp [0,2,3,4,5,6,48] rfl) (r_cond _ rfl (fun h4=>?_) (fun h4=>?_)))
       ·skip
        have hng:=of_decide_eq_true h4
        rw[if_pos ⟨hcy,hng⟩] at hta
        rw[if_neg (fun q=>q.2 hng)] at htb
        refine r_plan _ [] mo (kp [0,2,3,4,5,6] rfl) Ent.rfl ?_
        refine yp 0 [.k 4] rfl rfl (by kernel_rfl) (u_mv rfl rfl rfl) (yp 1 [.k 3,.o 0] rfl rfl (by kernel_rfl) (pv_aidx (i:=0) Tryz.underlying105 (.ofA ta_104) (fun hg=>⟨rfl,by omega⟩) (.n rfl) rfl rfl rfl fS) (yp 2 [.o 1] rfl rfl (by kernel_rfl) (u_fa fa_104_1 rfl rfl rfl) ?_))
        refine yr 3 [.o 2] rfl rfl (by kernel_rfl) (fun He=>u_ldc tc_3 rfl rfl rfl (by rfl)) ?_
        refine yp 4 [.k 6] rfl rfl (by kernel_rfl) (u_fa fa_116_2 rfl rfl rfl) (yr 5 [.o 4] rfl rfl (by kernel_rfl) (fun He=>u_ldc tc_3 rfl rfl rfl (by rfl)) ?_)
        refine yp 6 [.o 3,.o 5] rfl rfl (by kernel_rfl) (pv_sub (fun _=>by omega) (.n rfl) rfl rfl rfl fS) (yp 7 [.k 3,.o 0] rfl rfl (by kernel_rfl) (pv_aidx (i:=0) Tryz.underlying105 (.ofA ta_104) (fun hg=>⟨rfl,by omega⟩) (.n rfl) rfl rfl rfl fS) (yp 8 [.o 7] rfl rfl (by kernel_rfl) (u_fa fa_104_1 rfl rfl rfl) ?_))
        refine qb_store (.ofC tc_3) (i:=9) [.o 8,.o 6] (by kernel_rfl) (by kernel_rfl) rfl rfl rfl (by kernel_rfl) (by kernel_rfl) (by kernel_rfl) ⟨_,.n rfl,rfl⟩ rfl rfl rfl rfl rfl rfl (by repeat constructor) ?_
        refine qm_n (by kernel_rfl) (by kernel_rfl) (by kernel_rfl) (by kernel_rfl) (kp [0,2,3,4,5] rfl) ?_
        refine r_end (r_region (p_mv rfl rfl (p_add rfl rfl (by omega) rfl (p_as rfl rfl (o_keep (kp [0,2,3,4,5] rfl) ?_)))))
        refine r_back_3 (j+1) (outH (2*s.no) (s.holds.take (j+1))) (inH (2*s.no) (s.holds.take (j+1))) ?_ ?_ (Keep.app (kp [5] rfl) (kp [0,2,3,4] rfl)) ?_
        ·exact⟨by omega,rfl,rfl⟩
        ·omega
        ·rw[hta,htb,Int.add_zero,← Int.sub_eq_add_neg];refine Ent.c (SelB.ent) ?_;refine Ent.c (SelB.ent) ?_;refine Ent.catI ?_;apply eI;repeat constructor
       ·skip
        have hng:=of_decide_eq_false h4
        rw[if_neg (fun q=>hng q.2)] at hta
        rw[if_pos ⟨hcy,hng⟩] at htb
        refine r_plan _ [] mo (kp [0,2,3,4,5,6] rfl) Ent.rfl ?_
        refine yp 0 [.k 4] rfl rfl (by kernel_rfl) (u_mv rfl rfl rfl) (yp 1 [.k 3,.o 0] rfl rfl (by kernel_rfl) (pv_aidx (i:=0) Tryz.underlying105 (.ofA ta_104) (fun hg=>⟨rfl,by omega⟩) (.n rfl) rfl rfl rfl fS) (yp 2 [.o 1] rfl rfl (by kernel_rfl) (u_fa fa_104_2 rfl rfl rfl) ?_))
        refine yr 3 [.o 2] rfl rfl (by kernel_rfl) (fun He=>u_ldc tc_3 rfl rfl rfl (by rfl)) ?_
        refine yp 4 [.k 6] rfl rfl (by kernel_rfl) (u_fa fa_116_2 rfl rfl rfl) (yr 5 [.o 4] rfl rfl (by kernel_rfl) (fun He=>u_ldc tc_3 rfl rfl rfl (by rfl)) ?_)
        refine yp 6 [.o 3,.o 5] rfl rfl (by kernel_rfl) (pv_add (fun _=>by omega) (.n rfl) rfl rfl rfl fS) (yp 7 [.k 3,.o 0] rfl rfl (by kernel_rfl) (pv_aidx (i:=0) Tryz.underlying105 (.ofA ta_104) (fun hg=>⟨rfl,by omega⟩) (.n rfl) rfl rfl rfl fS) (yp 8 [.o 7] rfl rfl (by kernel_rfl) (u_fa fa_104_2 rfl rfl rfl) ?_))
        refine qb_store (.ofC tc_3) (i:=9) [.o 8,.o 6] (by kernel_rfl) (by kernel_rfl) rfl rfl rfl (by kernel_rfl) (by kernel_rfl) (by kernel_rfl) ⟨_,.n rfl,rfl⟩ rfl rfl rfl rfl rfl rfl (by repeat constructor) ?_
        refine qm_n (by kernel_rfl) (by kernel_rfl) (by kernel_rfl) (by kernel_rfl) (kp [0,2,3,4,5] rfl) ?_
        refine r_end (r_region (p_mv rfl rfl (p_add rfl rfl (by omega) rfl (p_as rfl rfl (o_keep (kp [0,2,3,4,5] rfl) ?_)))))
        refine r_back_3 (j+1) (outH (2*s.no) (s.holds.take (j+1))) (inH (2*s.no) (s.holds.take (j+1))) ?_ ?_ (Keep.app (kp [5] rfl) (kp [0,2,3,4] rfl)) ?_
        ·exact⟨by omega,rfl,rfl⟩
        ·omega
        ·rw[hta,htb,Int.add_zero];refine Ent.c (SelB.ent) ?_;refine Ent.c (SelB.ent) ?_;refine Ent.catI ?_;apply eI;repeat constructor
      ·skip
       have hcn:¬ hh0.ctr=2*s.no:=by simp at h3;omega
       rw[if_neg (fun q=>hcn q.1)] at hta htb
       refine r_skip (r_end (r_region (p_mv rfl rfl (p_add rfl rfl (by omega) rfl (p_as rfl rfl (o_keep (kp [0,2,3,4,5] rfl) ?_))))))
       refine r_back_3 (j+1) (outH (2*s.no) (s.holds.take (j+1))) (inH (2*s.no) (s.holds.take (j+1))) ?_ ?_ (Keep.app (kp [5] rfl) (kp [0,2,3,4] rfl)) ?_
       ·exact⟨by omega,rfl,rfl⟩
       ·omega
       ·rw[hta,htb,Int.add_zero,Int.add_zero];refine Ent.c (SelB.ent) ?_;refine Ent.c (SelB.ent) ?_;refine Ent.catI ?_;apply eI;repeat constructor
     ·skip
      have hj:s.holds.length≤j:=by have:=of_decide_eq_false h2;omega
      rw[List.take_of_length_le hj,← hS.o0,← hS.i0]
      refine r_exit rfl (r_end (r_region (p_mv rfl rfl (p_add rfl rfl (by omega) rfl (p_as rfl rfl (o_keep (kp [0,2,3,4] rfl) ?_))))))
      refine r_back_2 (1) (cntL s.c0++[.int .i64 0,.int .i64 0,.int .i64 0]) ?_ ?_ (Keep.app (kp [4] rfl) (kp [0,2,3] rfl)) ?_
      ·exact .inr (.inl ⟨rfl,rfl⟩)
      ·omega
      ·refine Ent.c (SelB.ent) ?_;refine Ent.c (SelB.ent) ?_;refine Ent.catI ?_;apply eI;repeat constructor
   ·skip
    refine r_region (p_mv rfl rfl (p_mv rfl rfl (p_mv rfl rfl (p_nil rfl rfl (p_fa fa_114_1 rfl rfl (l_op (x_p (pv_aidx (i:=1) Tryz.underlying111 (.ofC tc_3) (fun hg=>⟨rfl,by omega⟩) (.n rfl) rfl rfl rfl fS) rfl rfl (l_op (x_r (u_ldc tc_3 rfl rfl rfl (by rfl)) rfl rfl ?_)))))))))
    refine l_op (x_p (pv_aidx (i:=1) Tryz.underlying105 (.ofA ta_104) (fun hg=>⟨rfl,by omega⟩) (.n rfl) rfl rfl rfl fS) rfl rfl (p_fa fa_104_0 rfl rfl ?_))
    refine p_store (.ofC tc_3) rfl rfl rfl rfl rfl (by repeat constructor) ?_
    refine o_keep (kp [0,2,3,4] rfl) (r_sr (p_as rfl rfl (o_keep (kp [0,2,3,4,5] rfl) (r_block ?_))))
    refine r_loop_3 (fun (j:Nat) (o n:Int)=>[(5,true,.int .i64 (j:Int))]) (kp [0,2,3,4] rfl) (fun (j:Nat) (o n:Int)=>blk b3 (cntL s.c0++[.int .i64 s.c1.v,.int .i64 o,.int .i64 n]) 105::blk b2 ([.int .i64 0,.int .i64 0,.int .i64 0]++[.int .i64 0,.int .i64 0,.int .i64 0]) 105::(boL b s hv ov dv++R)) (fun (j:Nat) (o n:Int)=>j≤s.holds.length∧o=outH (2*s.no+1) (s.holds.take j)∧n=inH (2*s.no+1) (s.holds.take j)) (fun (j:Nat) (o n:Int)=>s.holds.length - j) (0) (0) (0) ?_ (kp [5] rfl) ?_ (fun j o n hI=>?_)
    ·exact⟨Nat.zero_le _,rfl,rfl⟩
    ·refine Ent.c (SelB.ent) ?_;refine Ent.c (SelB.ent) ?_;refine Ent.catI ?_;apply eI;repeat constructor
    ·skip
     obtain⟨hjl,rfl,rfl⟩:=hI
     refine r_cat2 ?_
     refine r_seq (r_sr (p_mv rfl rfl (p_mv rfl rfl (p_nil rfl rfl (p_fa fa_114_2 rfl rfl (p_ldc tc_112 rfl (by rfl) rfl ?_))))))
     refine l_op (x_p (pv_lens (Rd.len hrh) ⟨_,Tryz.underlying112⟩ (.n rfl) rfl rfl rfl rfl fR) rfl rfl (p_lss rfl rfl rfl (o_keep (kp [0,2,3,4,5,26] rfl) (r_cond _ rfl (fun h5=>?_) (fun h5=>?_)))))
     ·skip
      have hj:j<s.holds.length:=by have:=of_decide_eq_true h5;omega
      obtain⟨hh0,hh⟩:=getlt hj
      obtain⟨hta,htb⟩:=outH_take hh (2*s.no+1)
      have hdl0:=hS.dl hh0 (List.mem_of_getElem? hh)
      have hbo:=outH_le (l:=s.holds.take j) (fun y hy=>hS.dl y (List.mem_of_mem_take hy)) (2*s.no+1)
      have hbn:=outH_nn (2*s.no+1) (s.holds.take j)
      have hbm:=inH_nn (2*s.no+1) (s.holds.take j)
      have htl:=take_len (l:=s.holds) (i:=j) (by omega)
      refine r_skip (r_seq (r_block (r_sr (p_mv rfl rfl (p_nil rfl rfl (p_fa fa_114_2 rfl rfl (p_ldc tc_112 rfl (by rfl) rfl ?_)))))))
      refine p_mv rfl rfl (p_idx Tryz.underlying112 (.ofA ta_116) hrh rfl (mapget hh) rfl rfl rfl ?_)
      refine p_ldats 0 ta_116 (Rd.ent hrh (eJ (by repeat constructor))) (mapget hh) rfl rfl (.s (.s (.s .z))) rfl ?_
      refine p_alloc zr_116 rfl fun b6=>?_
      refine p_store (.ofA ta_116) rfl rfl rfl (by first|rfl|exact rfl) (by first|rfl|exact rfl) (Ins.whole (by simp[*])) ?_
      refine o_keep (.c 0 rfl (.c 2 rfl (.c 3 rfl (.c 4 rfl (.c 5 rfl (.c 6 rfl .n)))))) (r_seq ?_)
      refine r_plan _ [] mo (kp [0,2,3,4,5,6] rfl) Ent.rfl ?_
      refine yp 0 [.k 6] rfl rfl (by kernel_rfl) (u_fa fa_116_1 rfl rfl rfl) (yr 1 [.o 0] rfl rfl (by kernel_rfl) (fun He=>u_ldc tc_3 rfl rfl rfl (by rfl)) ?_)
      refine yp 2 [.k 0] rfl rfl (by kernel_rfl) (u_mv rfl rfl rfl) (yp 3 [.o 2] rfl rfl (by kernel_rfl) (u_nil rfl rfl rfl) (yp 4 [.o 3] rfl rfl (by kernel_rfl) (u_fa fa_114_0 rfl rfl rfl) (yr 5 [.o 4] rfl rfl (by kernel_rfl) (fun He=>u_ldc tc_3 rfl rfl rfl (by rfl)) ?_)))
      refine yp 6 [.o 5] rfl rfl (by kernel_rfl) (pv_mul (fun _=>by omega) (.n rfl) rfl rfl rfl fS) (yp 7 [.k 4] rfl rfl (by kernel_rfl) (u_mv rfl rfl rfl) (yp 8 [.o 6,.o 7] rfl rfl (by kernel_rfl) (pv_add (fun _=>by omega) (.n rfl) rfl rfl rfl fS) ?_))
      refine yp 9 [.o 1,.o 8] rfl rfl (by kernel_rfl) (pv_eql (.n rfl) rfl rfl rfl fS) ?_
      refine qm_n (by kernel_rfl) (by kernel_rfl) (by kernel_rfl) (by kernel_rfl) (kp [0,2,3,4,5,6,45] rfl) ?_
      refine r_cond _ rfl (fun h6=>?_) (fun h6=>?_)
      ·skip
       have hcy:hh0.ctr=2*s.no+1:=by simp at h6;omega
       refine r_sr (p_fa fa_116_2 rfl rfl (p_ldc tc_3 rfl (by rfl) rfl ?_))
       refine p_lss rfl rfl rfl (o_keep (kp [0,2,3,4,5,6,48] rfl) (r_cond _ rfl (fun h7=>?_) (fun h7=>?_)))
       ·skip
        have hng:=of_decide_eq_true h7
        rw[if_pos ⟨hcy,hng⟩] at hta
        rw[if_neg (fun q=>q.2 hng)] at htb
        refine r_plan _ [] mo (kp [0,2,3,4,5,6] rfl) Ent.rfl ?_
        refine yp 0 [.k 4] rfl rfl (by kernel_rfl) (u_mv rfl rfl rfl) (yp 1 [.k 3,.o 0] rfl rfl (by kernel_rfl) (pv_aidx (i:=1) Tryz.underlying105 (.ofA ta_104) (fun hg=>⟨rfl,by omega⟩) (.n rfl) rfl rfl rfl fS) (yp 2 [.o 1] rfl rfl (by kernel_rfl) (u_fa fa_104_1 rfl rfl rfl) ?_))
        refine yr 3 [.o 2] rfl rfl (by kernel_rfl) (fun He=>u_ldc tc_3 rfl rfl rfl (by rfl)) ?_
        refine yp 4 [.k 6] rfl rfl (by kernel_rfl) (u_fa fa_116_2 rfl rfl rfl) (yr 5 [.o 4] rfl rfl (by kernel_rfl) (fun He=>u_ldc tc_3 rfl rfl rfl (by rfl)) ?_)
        refine yp 6 [.o 3,.o 5] rfl rfl (by kernel_rfl) (pv_sub (fun _=>by omega) (.n rfl) rfl rfl rfl fS) (yp 7 [.k 3,.o 0] rfl rfl (by kernel_rfl) (pv_aidx (i:=1) Tryz.underlying105 (.ofA ta_104) (fun hg=>⟨rfl,by omega⟩) (.n rfl) rfl rfl rfl fS) (yp 8 [.o 7] rfl rfl (by kernel_rfl) (u_fa fa_104_1 rfl rfl rfl) ?_))
        refine qb_store (.ofC tc_3) (i:=9) [.o 8,.o 6] (by kernel_rfl) (by kernel_rfl) rfl rfl rfl (by kernel_rfl) (by kernel_rfl) (by kernel_rfl) ⟨_,.n rfl,rfl⟩ rfl rfl rfl rfl rfl rfl (by repeat constructor) ?_
        refine qm_n (by kernel_rfl) (by kernel_rfl) (by kernel_rfl) (by kernel_rfl) (kp [0,2,3,4,5] rfl) ?_
        refine r_end (r_region (p_mv rfl rfl (p_add rfl rfl (by omega) rfl (p_as rfl rfl (o_keep (kp [0,2,3,4,5] rfl) ?_)))))
        refine r_back_3 (j+1) (outH (2*s.no+1) (s.holds.take (j+1))) (inH (2*s.no+1) (s.holds.take (j+1))) ?_ ?_ (Keep.app (kp [5] rfl) (kp [0,2,3,4] rfl)) ?_
        ·exact⟨by omega,rfl,rfl⟩
        ·omega
        ·rw[hta,htb,Int.add_zero,← Int.sub_eq_add_neg];refine Ent.c (SelB.ent) ?_;refine Ent.c (SelB.ent) ?_;refine Ent.catI ?_;apply eI;repeat constructor
       ·skip
        have hng:=of_decide_eq_false h7
        rw[if_neg (fun q=>hng q.2)] at hta
        rw[if_pos ⟨hcy,hng⟩] at htb
        refine r_plan _ [] mo (kp [0,2,3,4,5,6] rfl) Ent.rfl ?_
        refine yp 0 [.k 4] rfl rfl (by kernel_rfl) (u_mv rfl rfl rfl) (yp 1 [.k 3,.o 0] rfl rfl (by kernel_rfl) (pv_aidx (i:=1) Tryz.underlying105 (.ofA ta_104) (fun hg=>⟨rfl,by omega⟩) (.n rfl) rfl rfl rfl fS) (yp 2 [.o 1] rfl rfl (by kernel_rfl) (u_fa fa_104_2 rfl rfl rfl) ?_))
        refine yr 3 [.o 2] rfl rfl (by kernel_rfl) (fun He=>u_ldc tc_3 rfl rfl rfl (by rfl)) ?_
        refine yp 4 [.k 6] rfl rfl (by kernel_rfl) (u_fa fa_116_2 rfl rfl rfl) (yr 5 [.o 4] rfl rfl (by kernel_rfl) (fun He=>u_ldc tc_3 rfl rfl rfl (by rfl)) ?_)
        refine yp 6 [.o 3,.o 5] rfl rfl (by kernel_rfl) (pv_add (fun _=>by omega) (.n rfl) rfl rfl rfl fS) (yp 7 [.k 3,.o 0] rfl rfl (by kernel_rfl) (pv_aidx (i:=1) Tryz.underlying105 (.ofA ta_104) (fun hg=>⟨rfl,by omega⟩) (.n rfl) rfl rfl rfl fS) (yp 8 [.o 7] rfl rfl (by kernel_rfl) (u_fa fa_104_2 rfl rfl rfl) ?_))
        refine qb_store (.ofC tc_3) (i:=9) [.o 8,.o 6] (by kernel_rfl) (by kernel_rfl) rfl rfl rfl (by kernel_rfl) (by kernel_rfl) (by kernel_rfl) ⟨_,.n rfl,rfl⟩ rfl rfl rfl rfl rfl rfl (by repeat constructor) ?_
        refine qm_n (by kernel_rfl) (by kernel_rfl) (by kernel_rfl) (by kernel_rfl) (kp [0,2,3,4,5] rfl) ?_
        refine r_end (r_region (p_mv rfl rfl (p_add rfl rfl (by omega) rfl (p_as rfl rfl (o_keep (kp [0,2,3,4,5] rfl) ?_)))))
        refine r_back_3 (j+1) (outH (2*s.no+1) (s.holds.take (j+1))) (inH (2*s.no+1) (s.holds.take (j+1))) ?_ ?_ (Keep.app (kp [5] rfl) (kp [0,2,3,4] rfl)) ?_
        ·exact⟨by omega,rfl,rfl⟩
        ·omega
        ·rw[hta,htb,Int.add_zero];refine Ent.c (SelB.ent) ?_;refine Ent.c (SelB.ent) ?_;refine Ent.catI ?_;apply eI;repeat constructor
      ·skip
       have hcn:¬ hh0.ctr=2*s.no+1:=by simp at h6;omega
       rw[if_neg (fun q=>hcn q.1)] at hta htb
       refine r_skip (r_end (r_region (p_mv rfl rfl (p_add rfl rfl (by omega) rfl (p_as rfl rfl (o_keep (kp [0,2,3,4,5] rfl) ?_))))))
       refine r_back_3 (j+1) (outH (2*s.no+1) (s.holds.take (j+1))) (inH (2*s.no+1) (s.holds.take (j+1))) ?_ ?_ (Keep.app (kp [5] rfl) (kp [0,2,3,4] rfl)) ?_
       ·exact⟨by omega,rfl,rfl⟩
       ·omega
       ·rw[hta,htb,Int.add_zero,Int.add_zero];refine Ent.c (SelB.ent) ?_;refine Ent.c (SelB.ent) ?_;refine Ent.catI ?_;apply eI;repeat constructor
     ·skip
      have hj:s.holds.length≤j:=by have:=of_decide_eq_false h5;omega
      rw[List.take_of_length_le hj,← hS.o1,← hS.i1]
      refine r_exit rfl (r_end (r_region (p_mv rfl rfl (p_add rfl rfl (by omega) rfl (p_as rfl rfl (o_keep (kp [0,2,3,4] rfl) ?_))))))
      refine r_back_2 (2) (cntL s.c0++cntL s.c1) ?_ ?_ (Keep.app (kp [4] rfl) (kp [0,2,3] rfl)) ?_
      ·exact .inr (.inr ⟨rfl,rfl⟩)
      ·omega
      ·refine Ent.c (SelB.ent) ?_;refine Ent.c (SelB.ent) ?_;refine Ent.catI ?_;apply eI;repeat constructor
  ·skip
   have hk2:¬ k<2:=by have:=of_decide_eq_false h1;omega
   obtain⟨rfl,rfl⟩:k=2∧cs=cntL s.c0++cntL s.c1:=by rcases hI with h|h|h;omega;omega;exact h
   refine r_exit rfl (r_sr ?_)
   refine p_lda ta_105 rfl (Tk.all rfl) rfl ?_
   refine p_store (.ofA ta_105) rfl rfl rfl (by first|rfl|exact rfl) (by first|rfl|exact rfl) (Ins.whole (by first|rfl|(simp only[List.length_map,List.length_cons,List.length_nil];omega)|(simp[*];done)|(simp[*];rfl))) ?_
   refine o_keep (.c 2 rfl .n) ?_
   refine r_retv hF rfl (.c (.a rfl ta_105 (.blk (SelB.ent) (Tk.all rfl)) rfl) .n) ?_ ?_
   ·refine Ent.catI ?_;apply eI;repeat constructor
   ·rfl
theorem booth_Hold (M:Amb)(b:Nat)(s:ShopS)(hS:ShInv s)(d:Int)(w:Want):FnC Tryz.prog M 148 [ptr b,.int .i64 d,.agg (rW w).toArray] (.int .i64 (holdS s d w).2) [boothP b s] [boothP b (holdS s d w).1]:=by
 have hh1:=hS.holds_le
 have hh2:=hS.over_le
 have hno0:=hS.no0
 have hno3:=hS.no3
 refine fnc_intro Tryz.func148 rfl Tryz.ntmps148 rfl fun R F hF=>?_
 refine r_cat ?_
 refine r_ex3 fun hv ov dv=>?_
 refine r_cat ?_
 refine r_rd hv fun hrh=>?_
 refine r_rd ov fun hro=>?_
 refine r_rd dv fun hrd=>?_
 refine r_sr (p_box rfl rfl rfl fun b5=>?_)
 refine p_as rfl rfl (o_keep (kp [0,1,5,6] rfl) (r_seq (r_sr (p_mv rfl rfl (p_lss rfl rfl rfl (p_mv rfl rfl (l_op (x_p (pv_mv (.s rfl rfl rfl) rfl rfl gA) rfl rfl ?_))))))))
 refine l_op (x_p (pv_geq (.s rfl rfl rfl) rfl rfl rfl gB) rfl rfl ?_)
 refine l_op (x_p (pv_or (.n rfl) rfl rfl rfl (fun _=>⟨rfl,fun hc=>by first|rfl|(rw[hc];rfl)|simp_all⟩)) rfl rfl ?_)
 refine o_keep (kp [0,1,5,6,19] rfl) (r_cond _ rfl (fun h1=>?_) (fun h1=>?_))
 ·try simp only[bq1,bq2,bq3,bq4,bq5,bq6,bq7,bq8] at h1
  have hs:=holdS_1 (s:=s) (w:=w) h1
  refine r_sr (p_as rfl rfl (o_keep (kp [0,1,5,6] rfl) ?_))
  refine r_retv hF rfl (.c (.t rfl) .n) ?_ ?_
  ·refine Ent.catI ?_;rw[hs];refine Ent.c (boothP_close hv ov dv rfl rfl rfl rfl) ?_;apply eI;repeat constructor
  ·rw[hs];rfl
 ·try simp only[bq1,bq2,bq3,bq4,bq5,bq6,bq7,bq8] at h1
  have hd:¬ (d<0∨8≤d):=by omega
  refine r_skip (r_seq (r_sr ?_))
  refine p_lda ta_93 rfl (by exact (.s (.s .z))) rfl ?_
  refine p_callv cf_145 (.c rfl .n) rfl (ref_WantFault _ _ w) ?_
  refine p_as rfl rfl (o_keep (kp [0,1,5,6,7] rfl) (r_sr (p_mv rfl rfl (p_neq rfl rfl rfl (o_keep (kp [0,1,5,6,7,23] rfl) (r_cond _ rfl (fun h2=>?_) (fun h2=>?_)))))))
  ·try simp only[bq1,bq2,bq3,bq4,bq5,bq6,bq7,bq8] at h2
   have hs:=holdS_2 (s:=s) hd h2
   refine r_sr (p_mv rfl rfl (p_as rfl rfl (o_keep (kp [0,1,5,6] rfl) ?_)))
   refine r_retv hF rfl (.c (.t rfl) .n) ?_ ?_
   ·refine Ent.catI ?_;rw[hs];refine Ent.c (boothP_close hv ov dv rfl rfl rfl rfl) ?_;apply eI;repeat constructor
   ·rw[hs];rfl
  ·try simp only[bq1,bq2,bq3,bq4,bq5,bq6,bq7,bq8] at h2
   have hw0:wantF w=0:=by omega
   have hwk:=wantF_ok hw0
   refine r_skip (r_seq (r_seq ?_))
   refine r_plan _ [] mo (kp [0,1,5,6] rfl) Ent.rfl ?_
   refine yp 0 [.k 5] rfl rfl (by kernel_rfl) (u_fa fa_93_0 rfl rfl rfl) (yr 1 [.o 0] rfl rfl (by kernel_rfl) (fun He=>u_ldc tc_3 rfl rfl rfl (by rfl)) ?_)
   refine yq 2 [.o 1] rfl rfl (by kernel_rfl) (fun He=>rq_call cf_79 (.n rfl) rfl (.c rfl fR .n) (fun hg=>ref_ShopOf _ _ _)) ?_
   refine yp 3 [.k 0] rfl rfl (by kernel_rfl) (u_mv rfl rfl rfl) (yp 4 [.o 3] rfl rfl (by kernel_rfl) (u_nil rfl rfl rfl) (yp 5 [.o 4] rfl rfl (by kernel_rfl) (u_fa fa_114_0 rfl rfl rfl) (yr 6 [.o 5] rfl rfl (by kernel_rfl) (fun He=>u_ldc tc_3 rfl rfl rfl (by rfl)) ?_)))
   refine yp 7 [.o 2,.o 6] rfl rfl (by kernel_rfl) (pv_neq (.n rfl) rfl rfl rfl fS) ?_
   refine qm_n (by kernel_rfl) (by kernel_rfl) (by kernel_rfl) (by kernel_rfl) (kp [0,1,5,6,32] rfl) ?_
   refine r_cond _ rfl (fun h3=>?_) (fun h3=>?_)
   ·try simp only[bq1,bq2,bq3,bq4,bq5,bq6,bq7,bq8] at h3
    have hs:=holdS_3 hd hw0 h3
    refine r_sr (p_as rfl rfl (o_keep (kp [0,1,5,6] rfl) ?_))
    refine r_retv hF rfl (.c (.t rfl) .n) ?_ ?_
    ·refine Ent.catI ?_;rw[hs];refine Ent.c (boothP_close hv ov dv rfl rfl rfl rfl) ?_;apply eI;repeat constructor
    ·rw[hs];rfl
   ·try simp only[bq1,bq2,bq3,bq4,bq5,bq6,bq7,bq8] at h3
    have hsh:shopOf w.ctr=s.no:=by omega
    have hso:=shopOf_ok (c:=w.ctr) (by omega) (by omega)
    refine r_skip (r_seq (r_sr (p_mv rfl rfl (p_mv rfl rfl ?_))))
    refine p_callv cf_166 (.c rfl (.c rfl .n)) rfl ((booth_Over_o _ b s hv ov dv (by omega) d).q) ?_
    refine p_mv rfl rfl (p_ext rfl rfl rfl (p_ext rfl rfl rfl (p_as rfl rfl (p_as rfl rfl (o_keep (kp [0,1,5,6,8] rfl) (r_sr (p_mv rfl rfl ?_)))))))
    refine o_keep (kp [0,1,5,6,39] rfl) (r_cond _ rfl (fun h4=>?_) (fun h4=>?_))
    ·try simp only[bq1,bq2,bq3,bq4,bq5,bq6,bq7,bq8] at h4
     have hs:=holdS_4 hd hw0 hsh (by simpa using h4)
     refine r_sr (p_as rfl rfl (o_keep (kp [0,1,5,6] rfl) ?_))
     refine r_retv hF rfl (.c (.t rfl) .n) ?_ ?_
     ·refine Ent.catI ?_;rw[hs];refine Ent.c (boothP_close hv ov dv rfl rfl rfl rfl) ?_;apply eI;repeat constructor
     ·rw[hs];rfl
    ·try simp only[bq1,bq2,bq3,bq4,bq5,bq6,bq7,bq8] at h4
     have hov:overL s.over d=none:=by simpa using h4
     refine r_skip (r_sr (p_mv rfl rfl (p_fa fa_93_0 rfl rfl (p_ldc tc_3 rfl (by rfl) rfl ?_))))
     refine p_fa fa_93_1 rfl rfl (p_ldc tc_3 rfl (by rfl) rfl ?_)
     refine p_build zr_116 pl_116 (.c rfl fR rfl rfl rfl (by repeat constructor) (.c rfl fR rfl rfl rfl (by repeat constructor) (.c rfl fR rfl rfl rfl (by repeat constructor) .n))) rfl ?_
     refine p_alloc zr_116 rfl fun b10=>?_
     refine p_store (.ofA ta_116) rfl rfl rfl (by first|rfl|exact rfl) (by first|rfl|exact rfl) (Ins.whole (by simp[*])) ?_
     refine o_keep (.c 0 rfl (.c 1 rfl (.c 5 rfl (.c 6 rfl (.c 10 rfl .n))))) (r_seq (r_sr (p_as rfl rfl (o_keep (.c 0 rfl (.c 1 rfl (.c 5 rfl (.c 6 rfl (.c 10 rfl (.c 11 rfl .n)))))) (r_block ?_)))))
     refine r_loop_1 (fun (i:Nat)=>[(11,true,.int .i64 (i:Int))]) (kp [0,1,5,6,10] rfl) (fun (i:Nat)=>blk b10 (rH ⟨d,w.ctr,w.dl⟩) 116::blk b5 (rW w) 93::(boL b s hv ov dv++R)) (fun (i:Nat)=>i≤s.holds.length∧scanH s.holds ⟨d,w.ctr,w.dl⟩=scanH (s.holds.drop i) ⟨d,w.ctr,w.dl⟩) (fun (i:Nat)=>s.holds.length - i) (0) ?_ (kp [11] rfl) ?_ (fun i hI=>?_)
     ·exact⟨Nat.zero_le _,rfl⟩
     ·refine Ent.c (SelB.ent) ?_;refine Ent.c (SelB.ent) ?_;refine Ent.catI ?_;apply eI;repeat constructor
     ·skip
      obtain⟨hil,hI⟩:=hI
      refine r_cat2 ?_
      refine r_seq (r_sr (p_mv rfl rfl (p_mv rfl rfl (p_nil rfl rfl (p_fa fa_114_2 rfl rfl (p_ldc tc_112 rfl (by rfl) rfl ?_))))))
      refine l_op (x_p (pv_lens (Rd.len hrh) ⟨_,Tryz.underlying112⟩ (.n rfl) rfl rfl rfl rfl fR) rfl rfl (p_lss rfl rfl rfl (o_keep (kp [0,1,5,6,10,11,52] rfl) (r_cond _ rfl (fun h5=>?_) (fun h5=>?_)))))
      ·try simp only[bq1,bq2,bq3,bq4,bq5,bq6,bq7,bq8] at h5
       obtain⟨x,hx⟩:=getlt (l:=s.holds) (i:=i) (by omega)
       have hat:=scanH_at hI hx
       refine r_skip (r_seq (r_block (r_seq (r_seq ?_))))
       refine r_plan _ [] mo (kp [0,1,5,6,10,11] rfl) Ent.rfl ?_
       refine yp 0 [.k 0] rfl rfl (by kernel_rfl) (u_mv rfl rfl rfl) (yp 1 [.o 0] rfl rfl (by kernel_rfl) (u_nil rfl rfl rfl) (yp 2 [.o 1] rfl rfl (by kernel_rfl) (u_fa fa_114_2 rfl rfl rfl) (yr 3 [.o 2] rfl rfl (by kernel_rfl) (fun He=>u_ldc tc_112 rfl rfl rfl (by rfl)) ?_)))
       refine yp 4 [.k 11] rfl rfl (by kernel_rfl) (u_mv rfl rfl rfl) (yp 5 [.o 3,.o 4] rfl rfl (by kernel_rfl) (pv_idx Tryz.underlying112 (.ofA ta_116) hrh (fun hg=>⟨rfl,(mapget hx)⟩) (.n rfl) rfl rfl rfl fS) ?_)
       refine yr 6 [.o 5] rfl rfl (by kernel_rfl) (fun He=>rv_ldats (j:=0) ta_116 (Rd.ent hrh (eJ (by repeat constructor))) (fun hg=>(mapget hx)) (.n rfl) rfl rfl fR rfl (.s (.s (.s .z)))) ?_
       refine yr 7 [.k 10] rfl rfl (by kernel_rfl) (fun He=>q_lda ta_116 (.n rfl) rfl rfl fR (Tk.all rfl)) ?_
       refine yp 8 [.o 6,.o 7] rfl rfl (by kernel_rfl) (pv_aeq (eq_Hold) (.n rfl) rfl rfl rfl fS) ?_
       refine qm_n (by kernel_rfl) (by kernel_rfl) (by kernel_rfl) (by kernel_rfl) (kp [0,1,5,6,10,11,63] rfl) ?_
       refine r_cond _ rfl (fun h6=>?_) (fun h6=>?_)
       ·try simp only[bq1,bq2,bq3,bq4,bq5,bq6,bq7,bq8] at h6
        have hs:=holdS_5 hd hw0 hsh hov (hat.1 h6)
        refine r_sr (p_as rfl rfl (o_keep (kp [0,1,5,6,10,11] rfl) ?_))
        refine r_retv hF rfl (.c (.t rfl) .n) ?_ ?_
        ·refine Ent.catI ?_;rw[hs];refine Ent.c (boothP_close hv ov dv rfl rfl rfl rfl) ?_;apply eI;repeat constructor
        ·rw[hs];rfl
       ·try simp only[bq1,bq2,bq3,bq4,bq5,bq6,bq7,bq8] at h6
        have hne:=h6
        refine r_skip (r_seq ?_)
        refine r_plan _ [] mo (kp [0,1,5,6,10,11] rfl) Ent.rfl ?_
        refine yp 0 [.k 0] rfl rfl (by kernel_rfl) (u_mv rfl rfl rfl) (yp 1 [.o 0] rfl rfl (by kernel_rfl) (u_nil rfl rfl rfl) (yp 2 [.o 1] rfl rfl (by kernel_rfl) (u_fa fa_114_2 rfl rfl rfl) (yr 3 [.o 2] rfl rfl (by kernel_rfl) (fun He=>u_ldc tc_112 rfl rfl rfl (by rfl)) ?_)))
        refine yp 4 [.k 11] rfl rfl (by kernel_rfl) (u_mv rfl rfl rfl) (yp 5 [.o 3,.o 4] rfl rfl (by kernel_rfl) (pv_idx Tryz.underlying112 (.ofA ta_116) hrh (fun hg=>⟨rfl,(mapget hx)⟩) (.n rfl) rfl rfl rfl fS) (yp 6 [.o 5] rfl rfl (by kernel_rfl) (pv_faat fa_116_0 (fun hg=>Rd.sh hrh (mapget hx)) (.n rfl) rfl rfl fR) ?_))
        refine yr 7 [.o 6] rfl rfl (by kernel_rfl) (fun He=>rv_ldat (j:=0) tc_3 (Rd.ent hrh (eJ (by repeat constructor))) (fun hg=>(mapget hx)) (.n rfl) rfl rfl fR rfl fR) ?_
        refine yp 8 [.k 1] rfl rfl (by kernel_rfl) (u_mv rfl rfl rfl) (yp 9 [.o 7,.o 8] rfl rfl (by kernel_rfl) (pv_eql (.n rfl) rfl rfl rfl fS) (yp 10 [.o 9] rfl rfl (by kernel_rfl) (u_mv rfl rfl rfl) ?_))
        refine yp 11 [.k 0,.o 10] rfl rfl (by kernel_rfl) (pv_mv (.s rfl rfl rfl) rfl rfl gA) (yp 12 [.o 11,.o 10] rfl rfl (by kernel_rfl) (pv_nilp (.s rfl rfl rfl) rfl rfl gA) ?_)
        refine yp 13 [.o 12,.o 10] rfl rfl (by kernel_rfl) (pv_fa fa_114_2 (.s rfl rfl rfl) rfl rfl gA) ?_
        refine yr 14 [.o 13,.o 10] rfl rfl (by kernel_rfl) (fun He=>q_ldc tc_112 (.s rfl rfl rfl) rfl rfl gA (by rfl)) ?_
        refine yp 15 [.k 11,.o 10] rfl rfl (by kernel_rfl) (pv_mv (.s rfl rfl rfl) rfl rfl gA) ?_
        refine yp 16 [.o 14,.o 15,.o 10] rfl rfl (by kernel_rfl) (pv_idx Tryz.underlying112 (.ofA ta_116) hrh (fun hg=>⟨rfl,(mapget hx)⟩) (.s rfl rfl rfl) rfl rfl rfl gB) ?_
        refine yp 17 [.o 16,.o 10] rfl rfl (by kernel_rfl) (pv_faat fa_116_1 (fun hg=>Rd.sh hrh (mapget hx)) (.s rfl rfl rfl) rfl rfl gA) ?_
        refine yr 18 [.o 17,.o 10] rfl rfl (by kernel_rfl) (fun He=>rv_ldat (j:=1) tc_3 (Rd.ent hrh (eJ (by repeat constructor))) (fun hg=>(mapget hx)) (.s rfl rfl rfl) rfl rfl gA rfl fR) ?_
        refine yp 19 [.k 5,.o 10] rfl rfl (by kernel_rfl) (pv_fa fa_93_0 (.s rfl rfl rfl) rfl rfl gA) ?_
        refine yr 20 [.o 19,.o 10] rfl rfl (by kernel_rfl) (fun He=>q_ldc tc_3 (.s rfl rfl rfl) rfl rfl gA (by rfl)) ?_
        refine yp 21 [.o 18,.o 20,.o 10] rfl rfl (by kernel_rfl) (pv_eql (.s rfl rfl rfl) rfl rfl rfl gB) ?_
        refine yp 22 [.o 10,.o 21] rfl rfl (by kernel_rfl) (pv_and (.n rfl) rfl rfl rfl (fun _=>⟨rfl,fun hc=>by first|rfl|(rw[hc];rfl)|simp_all⟩)) ?_
        refine qm_n (by kernel_rfl) (by kernel_rfl) (by kernel_rfl) (by kernel_rfl) (kp [0,1,5,6,10,11,86] rfl) ?_
        refine r_cond _ rfl (fun h7=>?_) (fun h7=>?_)
        ·try simp only[bq1,bq2,bq3,bq4,bq5,bq6,bq7,bq8] at h7
         have hs:=holdS_5 hd hw0 hsh hov (hat.2.1 hne (by dsimp only;omega) (by dsimp only;omega))
         refine r_sr (p_as rfl rfl (o_keep (kp [0,1,5,6,10,11] rfl) ?_))
         refine r_retv hF rfl (.c (.t rfl) .n) ?_ ?_
         ·refine Ent.catI ?_;rw[hs];refine Ent.c (boothP_close hv ov dv rfl rfl rfl rfl) ?_;apply eI;repeat constructor
         ·rw[hs];rfl
        ·try simp only[bq1,bq2,bq3,bq4,bq5,bq6,bq7,bq8] at h7
         have hnx:=hat.2.2 (by dsimp only;omega)
         refine r_skip (r_end (r_region (p_mv rfl rfl (p_add rfl rfl (by omega) rfl (p_as rfl rfl (o_keep (kp [0,1,5,6,10,11] rfl) ?_))))))
         refine r_back_1 (i+1) ?_ ?_ (Keep.app (kp [11] rfl) (kp [0,1,5,6,10] rfl)) ?_
         ·exact⟨by omega,hnx⟩
         ·omega
         ·refine Ent.c (SelB.ent) ?_;refine Ent.c (SelB.ent) ?_;refine Ent.catI ?_;apply eI;repeat constructor
      ·try simp only[bq1,bq2,bq3,bq4,bq5,bq6,bq7,bq8] at h5
       have hsc:scanH s.holds ⟨d,w.ctr,w.dl⟩=none:=by rw[hI,List.drop_eq_nil_of_le (by omega)];rfl
       refine r_exit rfl (r_seq (r_seq ?_))
       rcases (by omega:w.ctr % 2=0∨w.ctr % 2=1) with hk|hk
       ·skip
        refine r_plan _ [] mo (kp [0,5,6,10] rfl) Ent.rfl ?_
        refine yp 0 [.k 0] rfl rfl (by kernel_rfl) (u_mv rfl rfl rfl) ?_
        refine yq 1 [.o 0] rfl rfl (by kernel_rfl) (fun He=>rq_call cf_44 (.n rfl) rfl (.c rfl fR .n) (fun hg=>(booth_Counts_o _ b s hS hv ov dv).q)) ?_
        refine yp 2 [.k 5] rfl rfl (by kernel_rfl) (u_fa fa_93_0 rfl rfl rfl) (yr 3 [.o 2] rfl rfl (by kernel_rfl) (fun He=>u_ldc tc_3 rfl rfl rfl (by rfl)) ?_)
        refine yp 4 [.k 0] rfl rfl (by kernel_rfl) (u_mv rfl rfl rfl) (yp 5 [.o 4] rfl rfl (by kernel_rfl) (u_nil rfl rfl rfl) (yp 6 [.o 5] rfl rfl (by kernel_rfl) (u_fa fa_114_0 rfl rfl rfl) (yr 7 [.o 6] rfl rfl (by kernel_rfl) (fun He=>u_ldc tc_3 rfl rfl rfl (by rfl)) ?_)))
        refine yp 8 [.o 7] rfl rfl (by kernel_rfl) (pv_mul (fun _=>by omega) (.n rfl) rfl rfl rfl fS) (yp 9 [.o 3,.o 8] rfl rfl (by kernel_rfl) (pv_sub (fun _=>by omega) (.n rfl) rfl rfl rfl fS) ?_)
        refine yp 10 [.o 1,.o 9] rfl rfl (by kernel_rfl) (pv_index (i:=0) Tryz.underlying105 ta_104 (fun hg=>⟨by omega,by omega⟩) (.n rfl) rfl rfl rfl fS (fun hg=>(show _=cntL s.c0 from rfl))) (yp 11 [.k 5] rfl rfl (by kernel_rfl) (u_fa fa_93_1 rfl rfl rfl) (yr 12 [.o 11] rfl rfl (by kernel_rfl) (fun He=>u_ldc tc_3 rfl rfl rfl (by rfl)) ?_))
        refine yq 13 [.o 10,.o 12] rfl rfl (by kernel_rfl) (fun He=>rq_call cf_167 (.n rfl) rfl (.c rfl fR (.c rfl fR .n)) (fun hg=>ref_Held _ _ _ _ _ _)) ?_
        refine yp 14 [.o 13] rfl rfl (by kernel_rfl) (u_mv rfl rfl rfl) (yp 15 [.o 14] rfl rfl (by kernel_rfl) (u_ext rfl rfl rfl rfl) (yp 16 [.o 14] rfl rfl (by kernel_rfl) (u_ext rfl rfl rfl rfl) ?_))
        refine qm_alloc zr_104 (i:=17) [] (by kernel_rfl) (by kernel_rfl) rfl rfl rfl rfl (by kernel_rfl) (by kernel_rfl) ⟨_,.n rfl,rfl⟩ rfl fun b12=>?_
        refine qm_store (.ofA ta_104) (i:=18) [.o 17,.o 15] (by kernel_rfl) (by kernel_rfl) rfl rfl rfl (by kernel_rfl) (by kernel_rfl) ⟨_,.n rfl,rfl⟩ rfl rfl rfl rfl rfl rfl (by repeat constructor) ?_
        refine yp 19 [.o 16] rfl rfl (by kernel_rfl) (u_as rfl rfl rfl) ?_
        refine qm_n (by kernel_rfl) (by kernel_rfl) (by kernel_rfl) (by kernel_rfl) (kp [0,6,10,13] rfl) ?_
        refine r_sr (p_mv rfl rfl (p_neq rfl rfl rfl (o_keep (kp [0,6,10,13,105] rfl) (r_cond _ rfl (fun h8=>?_) (fun h8=>?_)))))
        ·try simp only[bq1,bq2,bq3,bq4,bq5,bq6,bq7,bq8] at h8
         have hs:=holdS_6 hd hw0 hsh hov hsc (by rw[hk,cnt0];simpa using h8)
         rw[hk,cnt0] at hs
         refine r_sr (p_mv rfl rfl (p_as rfl rfl (o_keep (kp [0,6,10] rfl) ?_)))
         refine r_retv hF rfl (.c (.t rfl) .n) ?_ ?_
         ·refine Ent.catI ?_;rw[hs];refine Ent.c (boothP_close hv ov dv rfl rfl rfl rfl) ?_;apply eI;repeat constructor
         ·rw[hs];rfl
        ·try simp only[bq1,bq2,bq3,bq4,bq5,bq6,bq7,bq8] at h8
         have hz:(hold s.c0 w.dl).2=0:=by simpa using h8
         have hs:=holdS_7 hd hw0 hsh hov hsc (by rw[hk,cnt0];simpa using h8)
         rw[hk,set0,cnt0] at hs
         refine r_skip (r_seq ?_)
         refine r_plan (_) ([sl hv 116 3 (s.holds.map rH)]) mo (kp [0,6,10] rfl) (SelS.ent) ?_
         refine yp 0 [.k 0] rfl rfl (by kernel_rfl) (u_mv rfl rfl rfl) (yp 1 [.k 0] rfl rfl (by kernel_rfl) (u_mv rfl rfl rfl) (yp 2 [.o 1] rfl rfl (by kernel_rfl) (u_nil rfl rfl rfl) (yp 3 [.o 2] rfl rfl (by kernel_rfl) (u_fa fa_114_2 rfl rfl rfl) (yr 4 [.o 3] rfl rfl (by kernel_rfl) (fun He=>u_ldc tc_112 rfl rfl rfl (by rfl)) ?_))))
         refine yr 5 [.k 10] rfl rfl (by kernel_rfl) (fun He=>q_lda ta_116 (.n rfl) rfl rfl fR (Tk.all rfl)) ?_
         refine qm_bslice1 Tryz.underlying112 (.ofA ta_116) zr_116 rfl (i:=6) [.o 5] (by kernel_rfl) (by kernel_rfl) rfl rfl rfl rfl (by kernel_rfl) (by kernel_rfl) ⟨_,.n rfl,rfl⟩ rfl rfl rfl rfl rfl rfl fun b113=>?_
         refine qa_append Tryz.underlying112 el_116 rfl rfl (i:=7) [.o 4,.o 6] (by kernel_rfl) (by kernel_rfl) rfl rfl rfl rfl (by kernel_rfl) (by kernel_rfl) ⟨_,.n rfl,rfl⟩ rfl rfl rfl (Rd.blit rfl rfl) (by simp;omega) fun v114=>?_
         refine qm_rd v114 fun hr114=>?_
         refine yp 8 [.o 0] rfl rfl (by kernel_rfl) (u_nil rfl rfl rfl) (yp 9 [.o 8] rfl rfl (by kernel_rfl) (u_fa fa_114_2 rfl rfl rfl) ?_)
         refine qb_store (.ofC tc_112) (i:=10) [.o 9,.o 7] (by kernel_rfl) (by kernel_rfl) rfl rfl rfl (by kernel_rfl) (by kernel_rfl) (by kernel_rfl) ⟨_,.n rfl,rfl⟩ rfl rfl rfl hr114.c1 rfl hr114.o1 (by repeat constructor) ?_
         refine qm_n (by kernel_rfl) (by kernel_rfl) (by kernel_rfl) (by kernel_rfl) (kp [6] rfl) ?_
         refine r_sr (p_as rfl rfl (o_keep (kp [6] rfl) ?_))
         refine r_retv hF rfl (.c (.t rfl) .n) ?_ ?_
         ·refine Ent.catI ?_;rw[hs];refine Ent.c (boothP_close v114 ov dv (by simp[hold_v hz]) (by simp) rfl rfl) ?_;apply eI;repeat constructor
         ·rw[hs];rfl
       ·skip
        refine r_plan _ [] mo (kp [0,5,6,10] rfl) Ent.rfl ?_
        refine yp 0 [.k 0] rfl rfl (by kernel_rfl) (u_mv rfl rfl rfl) ?_
        refine yq 1 [.o 0] rfl rfl (by kernel_rfl) (fun He=>rq_call cf_44 (.n rfl) rfl (.c rfl fR .n) (fun hg=>(booth_Counts_o _ b s hS hv ov dv).q)) ?_
        refine yp 2 [.k 5] rfl rfl (by kernel_rfl) (u_fa fa_93_0 rfl rfl rfl) (yr 3 [.o 2] rfl rfl (by kernel_rfl) (fun He=>u_ldc tc_3 rfl rfl rfl (by rfl)) ?_)
        refine yp 4 [.k 0] rfl rfl (by kernel_rfl) (u_mv rfl rfl rfl) (yp 5 [.o 4] rfl rfl (by kernel_rfl) (u_nil rfl rfl rfl) (yp 6 [.o 5] rfl rfl (by kernel_rfl) (u_fa fa_114_0 rfl rfl rfl) (yr 7 [.o 6] rfl rfl (by kernel_rfl) (fun He=>u_ldc tc_3 rfl rfl rfl (by rfl)) ?_)))
        refine yp 8 [.o 7] rfl rfl (by kernel_rfl) (pv_mul (fun _=>by omega) (.n rfl) rfl rfl rfl fS) (yp 9 [.o 3,.o 8] rfl rfl (by kernel_rfl) (pv_sub (fun _=>by omega) (.n rfl) rfl rfl rfl fS) ?_)
        refine yp 10 [.o 1,.o 9] rfl rfl (by kernel_rfl) (pv_index (i:=1) Tryz.underlying105 ta_104 (fun hg=>⟨by omega,by omega⟩) (.n rfl) rfl rfl rfl fS (fun hg=>(show _=cntL s.c1 from rfl))) (yp 11 [.k 5] rfl rfl (by kernel_rfl) (u_fa fa_93_1 rfl rfl rfl) (yr 12 [.o 11] rfl rfl (by kernel_rfl) (fun He=>u_ldc tc_3 rfl rfl rfl (by rfl)) ?_))
        refine yq 13 [.o 10,.o 12] rfl rfl (by kernel_rfl) (fun He=>rq_call cf_167 (.n rfl) rfl (.c rfl fR (.c rfl fR .n)) (fun hg=>ref_Held _ _ _ _ _ _)) ?_
        refine yp 14 [.o 13] rfl rfl (by kernel_rfl) (u_mv rfl rfl rfl) (yp 15 [.o 14] rfl rfl (by kernel_rfl) (u_ext rfl rfl rfl rfl) (yp 16 [.o 14] rfl rfl (by kernel_rfl) (u_ext rfl rfl rfl rfl) ?_))
        refine qm_alloc zr_104 (i:=17) [] (by kernel_rfl) (by kernel_rfl) rfl rfl rfl rfl (by kernel_rfl) (by kernel_rfl) ⟨_,.n rfl,rfl⟩ rfl fun b12=>?_
        refine qm_store (.ofA ta_104) (i:=18) [.o 17,.o 15] (by kernel_rfl) (by kernel_rfl) rfl rfl rfl (by kernel_rfl) (by kernel_rfl) ⟨_,.n rfl,rfl⟩ rfl rfl rfl rfl rfl rfl (by repeat constructor) ?_
        refine yp 19 [.o 16] rfl rfl (by kernel_rfl) (u_as rfl rfl rfl) ?_
        refine qm_n (by kernel_rfl) (by kernel_rfl) (by kernel_rfl) (by kernel_rfl) (kp [0,6,10,13] rfl) ?_
        refine r_sr (p_mv rfl rfl (p_neq rfl rfl rfl (o_keep (kp [0,6,10,13,105] rfl) (r_cond _ rfl (fun h9=>?_) (fun h9=>?_)))))
        ·try simp only[bq1,bq2,bq3,bq4,bq5,bq6,bq7,bq8] at h9
         have hs:=holdS_6 hd hw0 hsh hov hsc (by rw[hk,cnt1];simpa using h9)
         rw[hk,cnt1] at hs
         refine r_sr (p_mv rfl rfl (p_as rfl rfl (o_keep (kp [0,6,10] rfl) ?_)))
         refine r_retv hF rfl (.c (.t rfl) .n) ?_ ?_
         ·refine Ent.catI ?_;rw[hs];refine Ent.c (boothP_close hv ov dv rfl rfl rfl rfl) ?_;apply eI;repeat constructor
         ·rw[hs];rfl
        ·try simp only[bq1,bq2,bq3,bq4,bq5,bq6,bq7,bq8] at h9
         have hz:(hold s.c1 w.dl).2=0:=by simpa using h9
         have hs:=holdS_7 hd hw0 hsh hov hsc (by rw[hk,cnt1];simpa using h9)
         rw[hk,set1,cnt1] at hs
         refine r_skip (r_seq ?_)
         refine r_plan (_) ([sl hv 116 3 (s.holds.map rH)]) mo (kp [0,6,10] rfl) (SelS.ent) ?_
         refine yp 0 [.k 0] rfl rfl (by kernel_rfl) (u_mv rfl rfl rfl) (yp 1 [.k 0] rfl rfl (by kernel_rfl) (u_mv rfl rfl rfl) (yp 2 [.o 1] rfl rfl (by kernel_rfl) (u_nil rfl rfl rfl) (yp 3 [.o 2] rfl rfl (by kernel_rfl) (u_fa fa_114_2 rfl rfl rfl) (yr 4 [.o 3] rfl rfl (by kernel_rfl) (fun He=>u_ldc tc_112 rfl rfl rfl (by rfl)) ?_))))
         refine yr 5 [.k 10] rfl rfl (by kernel_rfl) (fun He=>q_lda ta_116 (.n rfl) rfl rfl fR (Tk.all rfl)) ?_
         refine qm_bslice1 Tryz.underlying112 (.ofA ta_116) zr_116 rfl (i:=6) [.o 5] (by kernel_rfl) (by kernel_rfl) rfl rfl rfl rfl (by kernel_rfl) (by kernel_rfl) ⟨_,.n rfl,rfl⟩ rfl rfl rfl rfl rfl rfl fun b113=>?_
         refine qa_append Tryz.underlying112 el_116 rfl rfl (i:=7) [.o 4,.o 6] (by kernel_rfl) (by kernel_rfl) rfl rfl rfl rfl (by kernel_rfl) (by kernel_rfl) ⟨_,.n rfl,rfl⟩ rfl rfl rfl (Rd.blit rfl rfl) (by simp;omega) fun v114=>?_
         refine qm_rd v114 fun hr114=>?_
         refine yp 8 [.o 0] rfl rfl (by kernel_rfl) (u_nil rfl rfl rfl) (yp 9 [.o 8] rfl rfl (by kernel_rfl) (u_fa fa_114_2 rfl rfl rfl) ?_)
         refine qb_store (.ofC tc_112) (i:=10) [.o 9,.o 7] (by kernel_rfl) (by kernel_rfl) rfl rfl rfl (by kernel_rfl) (by kernel_rfl) (by kernel_rfl) ⟨_,.n rfl,rfl⟩ rfl rfl rfl hr114.c1 rfl hr114.o1 (by repeat constructor) ?_
         refine qm_n (by kernel_rfl) (by kernel_rfl) (by kernel_rfl) (by kernel_rfl) (kp [6] rfl) ?_
         refine r_sr (p_as rfl rfl (o_keep (kp [6] rfl) ?_))
         refine r_retv hF rfl (.c (.t rfl) .n) ?_ ?_
         ·refine Ent.catI ?_;rw[hs];refine Ent.c (boothP_close v114 ov dv (by simp[hold_v hz]) (by simp) rfl rfl) ?_;apply eI;repeat constructor
         ·rw[hs];rfl
theorem vE_nil (v c d:Int)(dn:Bool):vE v c d dn []=v:=by unfold vE;simp[sumH]
theorem vE_skip{l:List Hld}{i:Nat}{x:Hld}(h:l[i]?=some x)(v c d:Int)(dn:Bool)(hn:¬ (x.ctr=c∧x.deal=d)∨dn=false):vE v c d dn (l.take (i+1))=vE v c d dn (l.take i):=by
  unfold vE
  rw[sumH_take h]
  rcases hn with hn|hn
  · rw[if_neg hn];simp
  · rw[hn];simp
theorem vE_hit{l:List Hld}{i:Nat}{x:Hld}(h:l[i]?=some x)(v c d:Int)(dn:Bool)(hc:x.ctr=c)(hd:x.deal=d)(hn:dn=true):vE v c d dn (l.take (i+1))=vE v c d dn (l.take i)+x.dl:=by
  unfold vE
  rw[sumH_take h];simp only[hn,if_true,hc,hd,and_self];omega
theorem vE_le{s:ShopS}(hS:ShInv s)(v c d:Int)(dn:Bool)(i:Nat)(hv:0≤v∧v≤100):-2000≤vE v c d dn (s.holds.take i)∧vE v c d dn (s.holds.take i)≤2000:=by
  have h1:=sumH_le (l:=s.holds.take i) (fun y hy=>hS.dl y (List.mem_of_mem_take hy)) c d
  have h2:=hS.holds_le
  have h3:(s.holds.take i).length≤16:=by simp;omega
  unfold vE;split<;>omega
theorem booth_End (M:Amb)(b:Nat)(s:ShopS)(hS:ShInv s)(d:Int)(dn:Bool):FnC Tryz.prog M 149 [ptr b,.int .i64 d,.bool dn] (.int .i64 (endS s d dn).2) [boothP b s] [boothP b (endS s d dn).1]:=by
 have hh1:=hS.holds_le
 have hh2:=hS.over_le
 have hno0:=hS.no0
 have hno3:=hS.no3
 refine fnc_intro Tryz.func149 rfl Tryz.ntmps149 rfl fun R F hF=>?_
 refine r_cat ?_
 refine r_ex3 fun hv ov dv=>?_
 refine r_cat ?_
 refine r_rd hv fun hrh=>?_
 refine r_rd ov fun hro=>?_
 refine r_rd dv fun hrd=>?_
 refine r_sr (p_as rfl rfl (o_keep (kp [0,1,2,6] rfl) (r_seq (r_sr (p_mv rfl rfl (p_lss rfl rfl rfl (p_mv rfl rfl ?_)))))))
 refine l_op (x_p (pv_mv (.s rfl rfl rfl) rfl rfl gA) rfl rfl ?_)
 refine l_op (x_p (pv_geq (.s rfl rfl rfl) rfl rfl rfl gB) rfl rfl ?_)
 refine l_op (x_p (pv_or (.n rfl) rfl rfl rfl (fun _=>⟨rfl,fun hc=>by first|rfl|(rw[hc];rfl)|simp_all⟩)) rfl rfl ?_)
 refine o_keep (kp [0,1,2,6,18] rfl) (r_cond _ rfl (fun h1=>?_) (fun h1=>?_))
 ·try simp only[bq1,bq2,bq3,bq4,bq5,bq6,bq7,bq8] at h1
  have hs:=endS_1 (s:=s) (b:=dn) h1
  refine r_sr (p_as rfl rfl (o_keep (kp [0,1,2,6] rfl) ?_))
  refine r_retv hF rfl (.c (.t rfl) .n) ?_ ?_
  ·refine Ent.catI ?_;rw[hs];refine Ent.c (boothP_close hv ov dv rfl rfl rfl rfl) ?_;apply eI;repeat constructor
  ·rw[hs];rfl
 ·try simp only[bq1,bq2,bq3,bq4,bq5,bq6,bq7,bq8] at h1
  have hd:¬ (d<0∨8≤d):=by omega
  refine r_skip (r_seq (r_sr (p_mv rfl rfl (p_mv rfl rfl ?_))))
  refine p_callv cf_166 (.c rfl (.c rfl .n)) rfl ((booth_Over_o _ b s hv ov dv (by omega) d).q) ?_
  refine p_mv rfl rfl (p_ext rfl rfl rfl (p_ext rfl rfl rfl (p_as rfl rfl (p_as rfl rfl (o_keep (kp [0,1,2,6,7,8] rfl) (r_sr (p_mv rfl rfl ?_)))))))
  refine o_keep (kp [0,1,2,6,8,25] rfl) (r_cond _ rfl (fun h2=>?_) (fun h2=>?_))
  ·try simp only[bq1,bq2,bq3,bq4,bq5,bq6,bq7,bq8] at h2
   obtain⟨was,hov⟩:=Option.isSome_iff_exists.1 (show (overL s.over d).isSome=true from h2)
   have hs:=endS_2 (b:=dn) hd hov
   refine r_seq (r_sr (p_mv rfl rfl (p_mv rfl rfl (l_op (x_p (pv_bne Tryz.underlying4 (.n rfl) rfl rfl rfl fS) rfl rfl (o_keep (kp [0,1,2,6,28] rfl) (r_cond _ rfl (fun h3=>?_) (fun h3=>?_))))))))
   ·try simp only[bq1,bq2,bq3,bq4,bq5,bq6,bq7,bq8] at h3
    have hne:=h3
    refine r_sr (p_as rfl rfl (o_keep (kp [0,1,2,6] rfl) ?_))
    refine r_retv hF rfl (.c (.t rfl) .n) ?_ ?_
    ·refine Ent.catI ?_;rw[hs];refine Ent.c (boothP_close hv ov dv rfl rfl rfl rfl) ?_;apply eI;repeat constructor
    ·rw[hs];exact int_eq' (by rw[hov] at hne;simp at hne;simp[hne])
   ·try simp only[bq1,bq2,bq3,bq4,bq5,bq6,bq7,bq8] at h3
    have hne:=h3
    refine r_skip (r_sr (p_as rfl rfl (o_keep (kp [0,1,2,6] rfl) ?_)))
    refine r_retv hF rfl (.c (.t rfl) .n) ?_ ?_
    ·refine Ent.catI ?_;rw[hs];refine Ent.c (boothP_close hv ov dv rfl rfl rfl rfl) ?_;apply eI;repeat constructor
    ·rw[hs];exact int_eq' (by rw[hov] at hne;simp at hne;simp[hne])
  ·try simp only[bq1,bq2,bq3,bq4,bq5,bq6,bq7,bq8] at h2
   have hov:overL s.over d=none:=by simpa using h2
   have hend:=hS.end' (b:=dn) (by omega) (by omega) hov
   have hs:(endS s d dn).2=0:=hend.2.1
   refine r_skip (r_sr (p_as rfl rfl (o_keep (kp [0,1,2,6,9] rfl) (r_seq (r_sr (p_as rfl rfl (o_keep (kp [0,1,2,6,9,10] rfl) ?_)))))))
   refine r_block ?_
   refine r_loop_2 (fun (i:Nat) (rv:Value)=>[(10,true,.int .i64 (i:Int)),(9,true,rv)]) (kp [0,1,2,6] rfl) (fun (i:Nat) (rv:Value)=>blk b [.int .i64 s.no,.int .i64 (vE s.c0.v (2*s.no) d dn (s.holds.take i)),.int .i64 (vE s.c1.v (2*s.no+1) d dn (s.holds.take i)),hv,ov,dv] 114::sl hv 116 3 (s.holds.map rH)::sl ov 3 1 ((s.over.map (·.deal)).map rI)::sl dv 3 1 ((s.over.map dnI).map rI)::sl rv 116 3 ((restH d (s.holds.take i)).map rH)::R) (fun (i:Nat) (rv:Value)=>i≤s.holds.length) (fun (i:Nat) (rv:Value)=>s.holds.length - i) (0) (.slice Option.none 0 0) ?_ (kp [10,9] rfl) ?_ (fun i rv hI=>?_)
   ·exact Nat.zero_le _
   ·rw[List.take_zero,vE_nil,vE_nil];apply eI;repeat constructor
   ·skip
    have hil:=hI
    refine r_seq (r_sr (p_mv rfl rfl (p_mv rfl rfl (p_nil rfl rfl (p_fa fa_114_2 rfl rfl (p_ldc tc_112 rfl (by rfl) rfl ?_))))))
    refine l_op (x_p (pv_lens (Rd.len hrh) ⟨_,Tryz.underlying112⟩ (.n rfl) rfl rfl rfl rfl fR) rfl rfl (p_lss rfl rfl rfl (o_keep (kp [0,1,2,6,9,10,35] rfl) (r_cond _ rfl (fun h4=>?_) (fun h4=>?_)))))
    ·try simp only[bq1,bq2,bq3,bq4,bq5,bq6,bq7,bq8] at h4
     obtain⟨x,hx⟩:=getlt (l:=s.holds) (i:=i) (by omega)
     have hts:=take_S hx
     have hre:=restH_app d (s.holds.take i) x
     rw[← hts] at hre
     have hxk:=hS.h x (List.mem_of_getElem? hx)
     have hck0:=chk_ok hS.k0
     have hck1:=chk_ok hS.k1
     have hb0:=vE_le hS s.c0.v (2*s.no) d dn i (by omega)
     have hb1:=vE_le hS s.c1.v (2*s.no+1) d dn i (by omega)
     have hdl0:=hS.dl x (List.mem_of_getElem? hx)
     refine r_skip (r_seq (r_block (r_sr (p_mv rfl rfl (p_nil rfl rfl (p_fa fa_114_2 rfl rfl (p_ldc tc_112 rfl (by rfl) rfl ?_)))))))
     refine p_mv rfl rfl (p_idx Tryz.underlying112 (.ofA ta_116) hrh rfl (mapget hx) rfl rfl rfl ?_)
     refine p_ldats 0 ta_116 (Rd.ent hrh (eJ (by repeat constructor))) (mapget hx) rfl rfl (.s (.s (.s .z))) rfl ?_
     refine p_alloc zr_116 rfl fun b11=>?_
     refine p_store (.ofA ta_116) rfl rfl rfl (by first|rfl|exact rfl) (by first|rfl|exact rfl) (Ins.whole (by simp[*])) ?_
     refine o_keep (.c 0 rfl (.c 1 rfl (.c 2 rfl (.c 6 rfl (.c 9 rfl (.c 10 rfl (.c 11 rfl .n))))))) (r_sr (p_fa fa_116_0 rfl rfl (p_ldc tc_3 rfl (by rfl) rfl ?_)))
     refine p_mv rfl rfl (p_neq rfl rfl rfl (o_keep (kp [0,1,2,6,9,10,11,48] rfl) (r_cond _ rfl (fun h5=>?_) (fun h5=>?_))))
     ·try simp only[bq1,bq2,bq3,bq4,bq5,bq6,bq7,bq8] at h5
      rw[if_neg h5] at hre
      have hxd:¬ x.deal=d:=h5
      have hu0:=vE_skip hx s.c0.v (2*s.no) d dn (.inl fun q=>hxd q.2)
      have hu1:=vE_skip hx s.c1.v (2*s.no+1) d dn (.inl fun q=>hxd q.2)
      refine r_region (p_mv rfl rfl ?_)
      refine p_lda ta_116 rfl (Tk.all rfl) rfl ?_
      refine p_bslice1 Tryz.underlying112 (.ofA ta_116) zr_116 rfl rfl rfl rfl rfl rfl rfl fun b51=>?_
      refine p_append Tryz.underlying112 el_116 rfl rfl rfl rfl rfl (Rd.blit rfl rfl) (by simp;have:=restH_le d (s.holds.take i);simp at this;omega) fun v52=>?_
      refine o_rd v52 fun hr52=>?_
      refine p_as rfl rfl (o_keep (kp [0,1,2,6,9,10] rfl) (r_end (r_region (p_mv rfl rfl (p_add rfl rfl (by omega) rfl (p_as rfl rfl (o_keep (kp [0,1,2,6,9,10] rfl) ?_)))))))
      refine r_back_2 (i+1) (_) ?_ ?_ (Keep.app (kp [10,9] rfl) (kp [0,1,2,6] rfl)) ?_
      ·omega
      ·omega
      ·rw[hu0,hu1,hre,List.map_append];apply eI;repeat constructor
     ·try simp only[bq1,bq2,bq3,bq4,bq5,bq6,bq7,bq8] at h5
      have hxd:x.deal=d:=by simpa using h5
      rw[if_pos hxd] at hre
      refine r_sr (p_mv rfl rfl (o_keep (kp [0,1,2,6,9,10,11,53] rfl) (r_cond _ rfl (fun h6=>?_) (fun h6=>?_))))
      ·try simp only[bq1,bq2,bq3,bq4,bq5,bq6,bq7,bq8] at h6
       have hdn:dn=true:=h6
       rcases hxk.2.2.2.1 with hk|hk
       ·skip
        have hu0:=vE_hit hx s.c0.v (2*s.no) d dn hk hxd hdn
        have hu1:=vE_skip hx s.c1.v (2*s.no+1) d dn (.inl fun q=>by have:=q.1;omega)
        refine r_plan _ [] mo (kp [0,1,2,6,9,10,11] rfl) Ent.rfl ?_
        refine yp 0 [.k 0] rfl rfl (by kernel_rfl) (u_mv rfl rfl rfl) (yp 1 [.k 11] rfl rfl (by kernel_rfl) (u_fa fa_116_1 rfl rfl rfl) (yr 2 [.o 1] rfl rfl (by kernel_rfl) (fun He=>u_ldc tc_3 rfl rfl rfl (by rfl)) ?_))
        refine yp 3 [.k 0] rfl rfl (by kernel_rfl) (u_mv rfl rfl rfl) (yp 4 [.o 3] rfl rfl (by kernel_rfl) (u_nil rfl rfl rfl) (yp 5 [.o 4] rfl rfl (by kernel_rfl) (u_fa fa_114_0 rfl rfl rfl) (yr 6 [.o 5] rfl rfl (by kernel_rfl) (fun He=>u_ldc tc_3 rfl rfl rfl (by rfl)) ?_)))
        refine yp 7 [.o 6] rfl rfl (by kernel_rfl) (pv_mul (fun _=>by omega) (.n rfl) rfl rfl rfl fS) (yp 8 [.o 2,.o 7] rfl rfl (by kernel_rfl) (pv_sub (fun _=>by omega) (.n rfl) rfl rfl rfl fS) (yp 9 [.o 0] rfl rfl (by kernel_rfl) (u_nil rfl rfl rfl) ?_))
        refine yp 10 [.o 9] rfl rfl (by kernel_rfl) (u_fa fa_114_1 rfl rfl rfl) (yp 11 [.o 10,.o 8] rfl rfl (by kernel_rfl) (pv_aidx (i:=0) Tryz.underlying111 (.ofC tc_3) (fun hg=>⟨by omega,by omega⟩) (.n rfl) rfl rfl rfl fS) (yr 12 [.o 11] rfl rfl (by kernel_rfl) (fun He=>u_ldc tc_3 rfl rfl rfl (by rfl)) ?_))
        refine yp 13 [.k 11] rfl rfl (by kernel_rfl) (u_fa fa_116_2 rfl rfl rfl) (yr 14 [.o 13] rfl rfl (by kernel_rfl) (fun He=>u_ldc tc_3 rfl rfl rfl (by rfl)) ?_)
        refine yp 15 [.o 12,.o 14] rfl rfl (by kernel_rfl) (pv_add (fun _=>by omega) (.n rfl) rfl rfl rfl fS) (yp 16 [.o 0] rfl rfl (by kernel_rfl) (u_nil rfl rfl rfl) (yp 17 [.o 16] rfl rfl (by kernel_rfl) (u_fa fa_114_1 rfl rfl rfl) ?_))
        refine yp 18 [.o 17,.o 8] rfl rfl (by kernel_rfl) (pv_aidx (i:=0) Tryz.underlying111 (.ofC tc_3) (fun hg=>⟨by omega,by omega⟩) (.n rfl) rfl rfl rfl fS) ?_
        refine qb_store (.ofC tc_3) (i:=19) [.o 18,.o 15] (by kernel_rfl) (by kernel_rfl) rfl rfl rfl (by kernel_rfl) (by kernel_rfl) (by kernel_rfl) ⟨_,.n rfl,rfl⟩ rfl rfl rfl rfl rfl rfl (by repeat constructor) ?_
        refine qm_n (by kernel_rfl) (by kernel_rfl) (by kernel_rfl) (by kernel_rfl) (kp [0,1,2,6,9,10] rfl) ?_
        refine r_end (r_region (p_mv rfl rfl (p_add rfl rfl (by omega) rfl (p_as rfl rfl (o_keep (kp [0,1,2,6,9,10] rfl) ?_)))))
        refine r_back_2 (i+1) (rv) ?_ ?_ (Keep.app (kp [10,9] rfl) (kp [0,1,2,6] rfl)) ?_
        ·omega
        ·omega
        ·rw[hu0,hu1,hre,List.append_nil];apply eI;repeat constructor
       ·skip
        have hu0:=vE_skip hx s.c0.v (2*s.no) d dn (.inl fun q=>by have:=q.1;omega)
        have hu1:=vE_hit hx s.c1.v (2*s.no+1) d dn hk hxd hdn
        refine r_plan _ [] mo (kp [0,1,2,6,9,10,11] rfl) Ent.rfl ?_
        refine yp 0 [.k 0] rfl rfl (by kernel_rfl) (u_mv rfl rfl rfl) (yp 1 [.k 11] rfl rfl (by kernel_rfl) (u_fa fa_116_1 rfl rfl rfl) (yr 2 [.o 1] rfl rfl (by kernel_rfl) (fun He=>u_ldc tc_3 rfl rfl rfl (by rfl)) ?_))
        refine yp 3 [.k 0] rfl rfl (by kernel_rfl) (u_mv rfl rfl rfl) (yp 4 [.o 3] rfl rfl (by kernel_rfl) (u_nil rfl rfl rfl) (yp 5 [.o 4] rfl rfl (by kernel_rfl) (u_fa fa_114_0 rfl rfl rfl) (yr 6 [.o 5] rfl rfl (by kernel_rfl) (fun He=>u_ldc tc_3 rfl rfl rfl (by rfl)) ?_)))
        refine yp 7 [.o 6] rfl rfl (by kernel_rfl) (pv_mul (fun _=>by omega) (.n rfl) rfl rfl rfl fS) (yp 8 [.o 2,.o 7] rfl rfl (by kernel_rfl) (pv_sub (fun _=>by omega) (.n rfl) rfl rfl rfl fS) (yp 9 [.o 0] rfl rfl (by kernel_rfl) (u_nil rfl rfl rfl) ?_))
        refine yp 10 [.o 9] rfl rfl (by kernel_rfl) (u_fa fa_114_1 rfl rfl rfl) (yp 11 [.o 10,.o 8] rfl rfl (by kernel_rfl) (pv_aidx (i:=1) Tryz.underlying111 (.ofC tc_3) (fun hg=>⟨by omega,by omega⟩) (.n rfl) rfl rfl rfl fS) (yr 12 [.o 11] rfl rfl (by kernel_rfl) (fun He=>u_ldc tc_3 rfl rfl rfl (by rfl)) ?_))
        refine yp 13 [.k 11] rfl rfl (by kernel_rfl) (u_fa fa_116_2 rfl rfl rfl) (yr 14 [.o 13] rfl rfl (by kernel_rfl) (fun He=>u_ldc tc_3 rfl rfl rfl (by rfl)) ?_)
        refine yp 15 [.o 12,.o 14] rfl rfl (by kernel_rfl) (pv_add (fun _=>by omega) (.n rfl) rfl rfl rfl fS) (yp 16 [.o 0] rfl rfl (by kernel_rfl) (u_nil rfl rfl rfl) (yp 17 [.o 16] rfl rfl (by kernel_rfl) (u_fa fa_114_1 rfl rfl rfl) ?_))
        refine yp 18 [.o 17,.o 8] rfl rfl (by kernel_rfl) (pv_aidx (i:=1) Tryz.underlying111 (.ofC tc_3) (fun hg=>⟨by omega,by omega⟩) (.n rfl) rfl rfl rfl fS) ?_
        refine qb_store (.ofC tc_3) (i:=19) [.o 18,.o 15] (by kernel_rfl) (by kernel_rfl) rfl rfl rfl (by kernel_rfl) (by kernel_rfl) (by kernel_rfl) ⟨_,.n rfl,rfl⟩ rfl rfl rfl rfl rfl rfl (by repeat constructor) ?_
        refine qm_n (by kernel_rfl) (by kernel_rfl) (by kernel_rfl) (by kernel_rfl) (kp [0,1,2,6,9,10] rfl) ?_
        refine r_end (r_region (p_mv rfl rfl (p_add rfl rfl (by omega) rfl (p_as rfl rfl (o_keep (kp [0,1,2,6,9,10] rfl) ?_)))))
        refine r_back_2 (i+1) (rv) ?_ ?_ (Keep.app (kp [10,9] rfl) (kp [0,1,2,6] rfl)) ?_
        ·omega
        ·omega
        ·rw[hu0,hu1,hre,List.append_nil];apply eI;repeat constructor
      ·try simp only[bq1,bq2,bq3,bq4,bq5,bq6,bq7,bq8] at h6
       have hdn:dn=false:=by simpa using h6
       have hu0:=vE_skip hx s.c0.v (2*s.no) d dn (.inr hdn)
       have hu1:=vE_skip hx s.c1.v (2*s.no+1) d dn (.inr hdn)
       refine r_skip (r_end (r_region (p_mv rfl rfl (p_add rfl rfl (by omega) rfl (p_as rfl rfl (o_keep (kp [0,1,2,6,9,10] rfl) ?_))))))
       refine r_back_2 (i+1) (rv) ?_ ?_ (Keep.app (kp [10,9] rfl) (kp [0,1,2,6] rfl)) ?_
       ·omega
       ·omega
       ·rw[hu0,hu1,hre,List.append_nil];apply eI;repeat constructor
    ·try simp only[bq1,bq2,bq3,bq4,bq5,bq6,bq7,bq8] at h4
     have hil2:s.holds.length≤i:=by omega
     rw[List.take_of_length_le hil2]
     refine r_exit rfl (r_seq ?_)
     refine r_rd rv fun hrr=>?_
     refine r_region (p_mv rfl rfl (p_mv rfl rfl (p_nil rfl rfl (p_fa fa_114_2 rfl rfl ?_))))
     refine p_store (.ofC tc_112) rfl rfl hrr.c1 rfl hrr.o1 (by repeat constructor) ?_
     refine o_keep (kp [0,1,2,6] rfl) (r_sr (p_mv rfl rfl (p_mv rfl rfl (p_nil rfl rfl (p_fa fa_114_3 rfl rfl (p_ldc tc_65 rfl (by rfl) rfl ?_))))))
     refine p_mv rfl rfl ?_
     refine p_bslice1 Tryz.underlying65 (.ofC tc_3) zr_3 rfl rfl rfl rfl rfl rfl rfl fun b83=>?_
     refine p_append Tryz.underlying65 el_3 rfl rfl rfl rfl rfl (Rd.blit rfl rfl) (by simp;omega) fun v84=>?_
     refine o_rd v84 fun hr84=>?_
     refine p_nil rfl rfl (p_fa fa_114_3 rfl rfl ?_)
     refine p_store (.ofC tc_65) rfl rfl hr84.c1 rfl hr84.o1 (by repeat constructor) ?_
     refine o_keep (kp [0,2,6] rfl) (r_sr (p_as rfl rfl (o_keep (kp [0,2,6,12] rfl) (r_seq (r_sr (p_mv rfl rfl (o_keep (kp [0,6,12,87] rfl) ?_)))))))
     refine r_cond _ rfl (fun h7=>?_) (fun h7=>?_)
     ·try simp only[bq1,bq2,bq3,bq4,bq5,bq6,bq7,bq8] at h7
      have hdn:dn=true:=h7
      refine r_region (p_as rfl rfl (o_keep (kp [0,6,12] rfl) (r_sr (p_mv rfl rfl (p_mv rfl rfl (p_nil rfl rfl (p_fa fa_114_4 rfl rfl ?_)))))))
      refine p_ldc tc_65 rfl (by rfl) rfl ?_
      refine p_mv rfl rfl ?_
      refine p_bslice1 Tryz.underlying65 (.ofC tc_3) zr_3 rfl rfl rfl rfl rfl rfl rfl fun b94=>?_
      refine p_append Tryz.underlying65 el_3 rfl rfl rfl rfl rfl (Rd.blit rfl rfl) (by simp;omega) fun v95=>?_
      refine o_rd v95 fun hr95=>?_
      refine p_nil rfl rfl (p_fa fa_114_4 rfl rfl ?_)
      refine p_store (.ofC tc_65) rfl rfl hr95.c1 rfl hr95.o1 (by repeat constructor) ?_
      refine o_keep (kp [6] rfl) (r_sr (p_as rfl rfl (o_keep (kp [6] rfl) ?_)))
      refine r_retv hF rfl (.c (.t rfl) .n) ?_ ?_
      ·refine Ent.catI ?_;obtain⟨q1,q2,q3,q4,q5,q6,q7⟩:=hend;refine Ent.c (boothP_close rv v84 v95 (by rw[boC,q3,q6,q7];rfl) (by rw[q4]) (by rw[q5,List.map_append,List.map_append];rfl) (by rw[q5,List.map_append,List.map_append];first|rfl|(simp[dnI,hdn];rfl)|simp[dnI,hdn,rI])) ?_;apply eI;repeat constructor
      ·rw[hs];rfl
     ·try simp only[bq1,bq2,bq3,bq4,bq5,bq6,bq7,bq8] at h7
      have hdn:dn=false:=by simpa using h7
      refine r_skip (r_sr (p_mv rfl rfl (p_mv rfl rfl (p_nil rfl rfl (p_fa fa_114_4 rfl rfl (p_ldc tc_65 rfl (by rfl) rfl ?_))))))
      refine p_mv rfl rfl ?_
      refine p_bslice1 Tryz.underlying65 (.ofC tc_3) zr_3 rfl rfl rfl rfl rfl rfl rfl fun b94=>?_
      refine p_append Tryz.underlying65 el_3 rfl rfl rfl rfl rfl (Rd.blit rfl rfl) (by simp;omega) fun v95=>?_
      refine o_rd v95 fun hr95=>?_
      refine p_nil rfl rfl (p_fa fa_114_4 rfl rfl ?_)
      refine p_store (.ofC tc_65) rfl rfl hr95.c1 rfl hr95.o1 (by repeat constructor) ?_
      refine o_keep (kp [6] rfl) (r_sr (p_as rfl rfl (o_keep (kp [6] rfl) ?_)))
      refine r_retv hF rfl (.c (.t rfl) .n) ?_ ?_
      ·refine Ent.catI ?_;obtain⟨q1,q2,q3,q4,q5,q6,q7⟩:=hend;refine Ent.c (boothP_close rv v84 v95 (by rw[boC,q3,q6,q7];rfl) (by rw[q4]) (by rw[q5,List.map_append,List.map_append];rfl) (by rw[q5,List.map_append,List.map_append];first|rfl|(simp[dnI,hdn];rfl)|simp[dnI,hdn,rI])) ?_;apply eI;repeat constructor
      ·rw[hs];rfl
end Go.Proofs.YtmakdilmibjpbaaGreatDoor
namespace Go.Proofs.YtmakdilmibjpbaaGreatDoor
open Go Go.RowKit
set_option linter.unusedVariables false
set_option linter.unusedSimpArgs false
set_option maxRecDepth 20000
theorem booth_New_none (M:Amb)(no:Int)(ws:List Int)(h6:ws.length=6)(h:newS no ws=none):FnC Tryz.prog M 46 [.int .i64 no,.agg (ws.map vI).toArray] (.pointer Option.none) [] []:=fun R w ho=>
  (booth_New M no ws h6 R w ho).mono fun _ _ ⟨v,H',e,⟨x,h1,h2⟩,ho'⟩=>⟨v,H',e,⟨by rw[h1,h];rfl,by rw[h2,h];rfl⟩,ho'⟩
theorem booth_New_some (M:Amb)(no:Int)(ws:List Int)(h6:ws.length=6){s:ShopS}(h:newS no ws=some s):FnE (α:=Nat) Tryz.prog M 46 [.int .i64 no,.agg (ws.map vI).toArray] [] (fun x=>ptr x) (fun x=>[boothP x s]):=fun R w ho=>
  (booth_New M no ws h6 R w ho).mono fun _ _ ⟨v,H',e,⟨x,h1,h2⟩,ho'⟩=>⟨v,H',e,⟨x,by rw[h1,h];rfl,by rw[h2,h];rfl⟩,ho'⟩
end Go.Proofs.YtmakdilmibjpbaaGreatDoor
