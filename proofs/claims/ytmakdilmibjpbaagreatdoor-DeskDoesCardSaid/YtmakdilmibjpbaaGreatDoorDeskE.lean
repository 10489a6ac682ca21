/- What lines tell: how long it is, what they leave, and what the first lines of all tell. Plain Lean. The walks of DeskE: written by a program of ours (gen.py) over the engine. -/
import Derived.Test.YtmakdilmibjpbaaGreatDoorDeskD
import Derived.Test.YtmakdilmibjpbaaGreatDoorTlaws
import Derived.Test.YtmakdilmibjpbaaGreatDoorWants
import Derived.Test.YtmakdilmibjpbaaGreatDoorFacts
namespace Go.Proofs.YtmakdilmibjpbaaGreatDoor
open Go Go.RowKit
set_option linter.unusedVariables false
set_option linter.unusedSimpArgs false
def askO (t:TownS)(w:List UInt8)(n:List Int):Option (TownS×List UInt8):=
  if w=[99,97,108,109]∧n.length=0 then some ((calmT t).1,[99,97,108,109,32]++Lib.itoa (calmT t).2++[10])
  else if w=[119,111,114,108,100]∧n.length=0 then some (t,listS [119,111,114,108,100] (worldT t))
  else if w=[115,101,114,105,97,108]∧n.length=0 then some (t,if (serialT t).2≠0 then codeS (serialT t).2 else listS [119,111,114,108,100] (serialT t).1)
  else if w=[115,116,97,116,101]∧n.length=1 then some (t,[115,116,97,116,101,32]++Lib.itoa (stateB t.b (n.getD 0 0))++[10])
  else if w=[100,111,110,101]∧n.length=0 then some (t,listS [100,111,110,101] t.b.order)
  else if w=[109,97,105,108]∧n.length=0 then some (t,mailsS t.post)
  else if w=[100,117,101]∧n.length=0 then some (t,mailsS (dueB t.b))
  else if w=[104,111,108,100,115]∧n.length=1 then some (t,shopS t (n.getD 0 0))
  else none
theorem askT_eq (t:TownS)(w:List UInt8)(n:List Int):askT t w n=(askO t w n).getD (t,whatS):=by
  unfold askT askO;(repeat' split)<;>rfl
def askU (t:TownS)(o:Option (TownS×List UInt8)):TownS×List UInt8:=o.getD (t,[])
theorem cmdT_eq (t:TownS)(w:List UInt8)(n:List Int):cmdT t w n=if (stepK w n).isSome=true then tellO t (stepK w n) else if (askO t w n).isSome=true then askU t (askO t w n) else (t,whatS):=by
  unfold cmdT
  cases h:stepK w n with
  | some x=>simp[tellO]
  | none=>
    rw[askT_eq]
    cases h2:askO t w n with
    | none=>simp
    | some y=>simp[askU]
theorem mailS_len{m:Mail}(h:Mr m):(mailS m).length≤100:=by
  have h1:=kind_len m.kind
  have h2:(numsL [m.deal,m.shop,m.ctr,m.dl]).length≤88:=numsL_len (mail_i64 h)
  unfold mailS;split<;>simp<;>omega
theorem mailsU_len:∀ {l:List Mail},(∀ m∈l,Mr m)→(mailsU l).length≤100*l.length
  | [],_=>by simp[mailsU]
  | m::l,h=>by
    have h1:=mailS_len (h m (by simp))
    have h2:=mailsU_len (l:=l) fun x hx=>h x (by simp[hx])
    simp only[mailsU,List.flatMap_cons,List.length_append,List.length_cons] at h2 ⊢
    omega
theorem mailsS_len{l:List Mail}(h:∀ m∈l,Mr m):(mailsS l).length≤100*l.length+4:=by
  have:=mailsU_len h
  simp only[mailsS,List.length_append,List.length_cons,List.length_nil];omega
theorem listS_len{l:List Int}(s:List UInt8)(h:∀ n∈l,i64 n):(listS s l).length≤s.length+22*l.length+1:=by
  have:=numsL_len h
  simp only[listS,List.length_append,List.length_cons,List.length_nil];omega
theorem holdU_len:∀ {l:List Hld},(∀ x∈l,∀ n∈[x.deal,x.ctr,x.dl],i64 n)→(holdU l).length≤100*l.length
  | [],_=>by simp[holdU]
  | x::l,h=>by
    have h1:=listS_len [104,111,108,100] (h x (by simp))
    have h2:=holdU_len (l:=l) fun y hy=>h y (by simp[hy])
    simp only[holdU,List.flatMap_cons,List.length_append,List.length_cons,List.length_nil] at h1 h2 ⊢
    omega
theorem shopS_len{t:TownS}(h:DInv t)(n:Int):(shopS t n).length≤10000:=by
  have h0:=code_len (c:=1) (by unfold i64;omega)
  unfold shopS
  split
  · omega
  · split
    · omega
    · rename_i k hk
      have hK:=(h.ti.k _ k hk).1.sh
      have h1:=hK.cnt
      have h2:=listS_len [99,111,117,110,116] h1.1
      have h3:=listS_len [99,111,117,110,116] h1.2
      have h4:=holdU_len fun x hx=>hK.hold hx
      have h5:=hK.holds_le
      simp only[countS,List.length_append,List.length_cons,List.length_nil] at h2 h3 h4 ⊢
      omega
theorem askO_len{t:TownS}(h:DInv t)(w:List UInt8)(n:List Int):(askU t (askO t w n)).2.length≤10000:=by
  have hc:=calm_i64 t
  have hc2:=Lib.itoa_length_le _ hc.1 hc.2
  have hs:=h.ti.b.state (n.getD 0 0)
  have hs2:=Lib.itoa_length_le _ hs.1 hs.2
  obtain⟨q1,q2,q3⟩:=h.serial
  have hw6:(worldT t).length≤6:=by rw[worldT_len h.ti.len];exact Nat.le_refl _
  have hw:=listS_len [119,111,114,108,100] h.world
  have hx:=listS_len [119,111,114,108,100] q3
  have ho:=listS_len [100,111,110,101] h.ti.b.order
  have ho8:=h.ti.b.ord_le
  have hm:=mailsS_len h.mr
  have hm4:=h.ti.full
  have hd:=mailsS_len (fun m hm=>h.due hm)
  have hd3:=h.ti.b.due_len
  have hh:=shopS_len h (n.getD 0 0)
  unfold askO
  simp only[List.length_cons,List.length_nil] at hw hx ho
  split
  · simp[askU];omega
  split
  · simp only[askU,Option.getD_some];omega
  split
  · simp only[askU,Option.getD_some,q1,ne_eq,not_true,if_false];omega
  split
  · simp only[askU,Option.getD_some,List.length_append,List.length_cons,List.length_nil];omega
  split
  · simp only[askU,Option.getD_some];omega
  split
  · simp only[askU,Option.getD_some];omega
  split
  · simp only[askU,Option.getD_some];omega
  split
  · simp only[askU,Option.getD_some];omega
  · simp[askU]
theorem tellO_len (t:TownS)(o:Option StepS):(tellO t o).2.length≤30:=by
  cases o with
  | none=>simp[tellO]
  | some x=>exact code_len (step_i64 t x)
theorem cmdT_len{t:TownS}(h:DInv t)(w:List UInt8)(n:List Int):(cmdT t w n).2.length≤10000:=by
  rw[cmdT_eq]
  split
  · have:=tellO_len t (stepK w n);omega
  split
  · exact askO_len h w n
  · simp[whatS]
theorem lineT_len{t:TownS}(h:DInv t)(s:List UInt8):(lineT t s).2.length≤10000:=by
  unfold lineT
  split
  · simp
  · split
    · simp[whatS]
    · exact cmdT_len h _ _
theorem DInv.tellO{t:TownS}(h:DInv t)(o:Option StepS):DInv (Go.Proofs.YtmakdilmibjpbaaGreatDoor.tellO t o).1:=by
  cases o with
  | none=>exact h
  | some x=>exact h.step x
theorem DInv.askU{t:TownS}(h:DInv t)(w:List UInt8)(n:List Int):DInv (Go.Proofs.YtmakdilmibjpbaaGreatDoor.askU t (askO t w n)).1:=by
  unfold askO
  split
  · exact h.calm
  (repeat' split)<;>exact h
theorem DInv.cmd{t:TownS}(h:DInv t)(w:List UInt8)(n:List Int):DInv (cmdT t w n).1:=by
  rw[cmdT_eq]
  split
  · exact h.tellO _
  split
  · exact h.askU w n
  · exact h
theorem DInv.line{t:TownS}(h:DInv t)(s:List UInt8):DInv (lineT t s).1:=by
  unfold lineT
  split
  · exact h
  · split
    · exact h
    · exact h.cmd _ _
theorem DInv.lines:∀ {l:List (List UInt8)} {t:TownS},DInv t→DInv (linesT t l).1
  | [],_,h=>h
  | s::l,t,h=>DInv.lines (l:=l) (h.line s)
theorem linesT_len:∀ (l:List (List UInt8)) {t:TownS},DInv t→(linesT t l).2.length≤10000*l.length
  | [],_,_=>by simp[linesT]
  | s::l,t,h=>by
    have h1:=lineT_len h s
    have h2:=linesT_len l (h.line s)
    simp only[linesT,List.length_append,List.length_cons];omega
theorem linesT_app:∀ (l m:List (List UInt8)) (t:TownS),linesT t (l++m)=((linesT (linesT t l).1 m).1,(linesT t l).2++(linesT (linesT t l).1 m).2)
  | [],m,t=>by simp[linesT]
  | s::l,m,t=>by simp only[List.cons_append,linesT,linesT_app l m,List.append_assoc]
theorem linesT_take{l:List (List UInt8)}{i:Nat}{s:List UInt8}(h:l[i]?=some s)(t:TownS):linesT t (l.take (i+1))=((lineT (linesT t (l.take i)).1 s).1,(linesT t (l.take i)).2++(lineT (linesT t (l.take i)).1 s).2):=by
  rw[List.take_add_one,h]
  show linesT t (l.take i++[s])=_
  rw[linesT_app];simp[linesT]
theorem tn0_inv:DInv tn0:=⟨(TInv.new (ws:=hw) rfl tn0_new).1,fun m hm=>(List.not_mem_nil hm).elim,by unfold Wr tn0 hw;decide⟩
def drainF:Nat→TownS→TownS
  | 0,t=>t
  | k+1,t=>if 0<t.post.length then drainF k (deliverT t 0).1 else t
theorem drainF_eq:∀ (k:Nat) (t:TownS),(drainF k t).post.length=0→drainT t=drainF k t
  | 0,t,h=>by
    rw[drainT,dif_neg (by simp only[drainF] at h;omega)];rfl
  | k+1,t,h=>by
    rw[drainT]
    unfold drainF at h ⊢
    by_cases h0:0<t.post.length
    · rw[dif_pos h0,if_pos h0];rw[if_pos h0] at h;exact drainF_eq k _ h
    · rw[dif_neg h0,if_neg h0]
def calmF:Nat→Int→TownS→Option (TownS×Int)
  | 0,n,t=>some (t,n)
  | k+1,n,t=>if (drainF 100 t).post.length=0 then (if (dueB (drainF 100 t).b).length=0 then some (drainF 100 t,n) else calmF k (n+1) (tickT (drainF 100 t))) else none
theorem calmF_eq:∀ (k:Nat) (n:Int) (t:TownS) (r:TownS×Int),calmF k n t=some r→calmN k n t=r
  | 0,n,t,r,h=>by cases h;rfl
  | k+1,n,t,r,h=>by
    unfold calmF at h
    split at h
    · rename_i h0
      unfold calmN
      rw[drainF_eq 100 t h0]
      split at h
      · rename_i h1;rw[if_pos h1];cases h;rfl
      · rename_i h1;rw[if_neg h1];exact calmF_eq k _ _ r h
    · cases h
def beg1:List (List UInt8):=[[98,101,103,105,110,32,48,32,45,50,48,32,51,32,50,48],[116,105,99,107],[109,97,105,108],[100,101,108,105,118,101,114,32,48],[104,111,108,100,115,32,48]]
def beg2:List (List UInt8):=[[115,116,97,116,101,32,48],[100,111,110,101],[119,111,114,108,100],[115,101,114,105,97,108],[120]]
def begS1:List UInt8:=[111,107,10,111,107,10,97,115,107,32,48,32,48,32,48,32,45,50,48,10,97,115,107,32,48,32,49,32,51,32,50,48,10,101,110,100,10,111,107,10,99,111,117,110,116,32,53,48,32,50,48,32,48,10,99,111,117,110,116,32,53,48,32,48,32,48,10,104,111,108,100,32,48,32,48,32,45,50,48,10,101,110,100,10]
def begS2:List UInt8:=[115,116,97,116,101,32,49,10,100,111,110,101,32,48,10,119,111,114,108,100,32,51,48,32,53,48,32,53,48,32,55,48,32,53,48,32,53,48,10,119,111,114,108,100,32,51,48,32,53,48,32,53,48,32,55,48,32,53,48,32,53,48,10,119,104,97,116,10]
def calmW:List UInt8:=[99,97,108,109]
def begT1:TownS:=(linesT tn0 beg1).1
def begT2:TownS:=((calmF 20 0 begT1).getD (tn0,0)).1
theorem beg_1:(linesT tn0 beg1).2=begS1:=by decide +kernel
theorem beg_c:calmF 20 0 begT1=some (begT2,1):=by kernel_rfl
theorem beg_calm:lineT begT1 calmW=(begT2,[99,97,108,109,32,49,10]):=by
  have h:calmT begT1=(begT2,1):=calmF_eq 20 0 begT1 _ beg_c
  show ((calmT begT1).1,[99,97,108,109,32]++Lib.itoa (calmT begT1).2++[10])=_
  rw[h]
  show (begT2,[99,97,108,109,32]++Lib.itoa 1++[10])=_
  rw[show Lib.itoa 1=[49] by decide +kernel];rfl
theorem beg_2:(linesT begT2 beg2).2=begS2:=by decide +kernel
def begL:List (List UInt8):=beg1++calmW::beg2
def begS:List UInt8:=begS1++([99,97,108,109,32,49,10]++begS2)
theorem begun:(linesT tn0 begL).2=begS:=by
  unfold begL begS
  rw[linesT_app]
  show (linesT tn0 beg1).2++(linesT begT1 (calmW::beg2)).2=_
  rw[beg_1]
  show begS1++((lineT begT1 calmW).2++(linesT (lineT begT1 calmW).1 beg2).2)=_
  rw[beg_calm]
  show begS1++([99,97,108,109,32,49,10]++(linesT begT2 beg2).2)=_
  rw[beg_2]
end Go.Proofs.YtmakdilmibjpbaaGreatDoor
namespace Go.Proofs.YtmakdilmibjpbaaGreatDoor
open Go Go.RowKit
set_option linter.unusedVariables false
set_option linter.unusedSimpArgs false
set_option maxRecDepth 20000
theorem rd_world{M:Amb}{H R:List HP}{b:Nat}{ws:List Int}(h:ws.length=6)[s:SelB H b (ws.map vI) 38 R]:Rd M H (.slice (some ⟨b,0,Option.none⟩) 6 6) 1 (ws.map rI):=by
  have h1:=rd_blk (M:=M) (b:=b) (cs:=ws.map vI) (rows:=ws.map rI) (Tb:=38) (H:=H) (R:=R) (fun r hr=>by simp only[List.mem_map] at hr;obtain⟨c,_,rfl⟩:=hr;exact⟨rfl,fun v hv=>by simp[rI] at hv;subst hv;rfl⟩) (by clear h;induction ws with|nil=>rfl|cons x l ih=>simp only[List.map_cons,List.flatten_cons,ih];rfl) (by simp) (by simp only[List.length_map,maxLen];omega) s.ent
  rw[List.length_map,h] at h1
  exact h1
theorem desk_ask (M:Amb)(L:LibOk M)(b tb:Nat)(u:List UInt8)(t:TownS)(hI:DInv t)(w:List UInt8)(v:Value)(l:List Int)(hl:l.length≤100000)(hu:u.length≤1000000000):FnC Tryz.prog M 31 [ptr b,str w,v] (.bool (askO t w l).isSome) [bdP b tb u,townP tb t,sl v 3 1 (l.map rI)] [bdP b tb (u++(askU t (askO t w l)).2),townP tb (askU t (askO t w l)).1,sl v 3 1 (l.map rI)]:=by
 have hTI:=hI.ti
 have hc6:=calm_i64 t
 have hitl:=Lib.itoa_length_le ((calmT t).2) hc6.1 hc6.2
 have hsi:∀ n,(Lib.itoa (stateB t.b n)).length≤21:=fun n=>Lib.itoa_length_le _ (hTI.b.state n).1 (hTI.b.state n).2
 obtain⟨hs0,hs6,hs7⟩:=hI.serial
 have hw6:=worldT_len hTI.len
 have hnw:=numsL_len hI.world
 have hns:=numsL_len hs7
 have hno:=numsL_len hTI.b.order
 have ho8:=hTI.b.ord_le
 have hm40:=hTI.full
 have hd32:=hTI.b.due_len
 refine fnc_intro Tryz.func31 rfl Tryz.ntmps31 rfl fun R F hF=>?_
 refine r_cat ?_
 refine r_rd v fun hv=>?_
 refine r_sr (p_as rfl rfl (o_keep (kp [0,1,2,6] rfl) (r_seq (r_block (r_sr (p_mv rfl rfl (l_op (x_p (pv_seq (.n rfl) rfl rfl rfl fS) rfl rfl ?_))))))))
 refine p_mv rfl rfl (l_op (x_p (pv_mv (.s rfl rfl rfl) rfl rfl gA) rfl rfl (l_op (x_p (pv_lens (Rd.len hv) ⟨_,Tryz.underlying65⟩ (.s rfl rfl rfl) rfl rfl rfl rfl gA) rfl rfl ?_))))
 refine l_op (x_p (pv_eql (.s rfl rfl rfl) rfl rfl rfl gB) rfl rfl ?_)
 refine l_op (x_p (pv_and (.n rfl) rfl rfl rfl (fun _=>⟨rfl,fun hc=>by first|rfl|(rw[hc];rfl)|simp_all⟩)) rfl rfl ?_)
 refine p_as rfl rfl (o_keep (kp [0,1,2,6,10] rfl) (r_cond _ rfl (fun h1=>?_) (fun h1=>?_)))
 ·skip
  have hc:w=[99,97,108,109]∧l.length=0:=by simpa using h1
  have hk:askO t w l=some ((calmT t).1,([99,97,108,109]++(32::Lib.itoa (calmT t).2))++[10]):=by unfold askO;rw[if_pos hc];rfl
  refine r_region (p_mv rfl rfl (p_mv rfl rfl (p_nil rfl rfl (p_fa fa_46_1 rfl rfl (l_op (x_r (rv_ldc tc_39 (bd_cell (SelX.ent (X:=bdP b tb u))) (.n rfl) rfl rfl fR) rfl rfl ?_))))))
  refine p_callc cf_59 (.c rfl .n) rfl (town_Calm _ tb t hTI) ?_
  refine p_callv cf_28 (.c rfl .n) rfl (desk_num _ _ L (calmT t).2 hc6) ?_
  refine p_bsl Tryz.underlying22 (.ofC tc_9) zr_9 (.c rfl rfl rfl (.c rfl rfl rfl .n)) (rows:=([[99,97,108,109],Lib.itoa (calmT t).2]:List (List UInt8)).map rS) rfl rfl rfl rfl fun b25 hr25=>?_
  refine p_callc cf_29 (.c rfl (.c rfl .n)) rfl (desk_say _ b tb u _ [[99,97,108,109],Lib.itoa (calmT t).2] ([99,97,108,109]++(32::Lib.itoa (calmT t).2)) (join2 _ _) (by simp) (by simp;omega)) ?_
  refine o_keep (kp [6] rfl) (r_end (r_sr (p_as rfl rfl (o_keep (kp [6] rfl) ?_))))
  refine r_retv hF rfl (.c (.t rfl) .n) ?_ ?_
  ·rw[hk];dsimp only[askU,Option.getD_some,Option.getD_none];apply eI;repeat constructor
  ·rw[hk];rfl
 ·skip
  have hn0:¬ (w=[99,97,108,109]∧l.length=0):=fun hh=>by simp[hh.1,hh.2] at h1
  refine r_sr (p_mv rfl rfl (l_op (x_p (pv_seq (.n rfl) rfl rfl rfl fS) rfl rfl (p_mv rfl rfl (l_op (x_p (pv_mv (.s rfl rfl rfl) rfl rfl gA) rfl rfl ?_))))))
  refine l_op (x_p (pv_lens (Rd.len hv) ⟨_,Tryz.underlying65⟩ (.s rfl rfl rfl) rfl rfl rfl rfl gA) rfl rfl ?_)
  refine l_op (x_p (pv_eql (.s rfl rfl rfl) rfl rfl rfl gB) rfl rfl ?_)
  refine l_op (x_p (pv_and (.n rfl) rfl rfl rfl (fun _=>⟨rfl,fun hc=>by first|rfl|(rw[hc];rfl)|simp_all⟩)) rfl rfl ?_)
  refine p_as rfl rfl (o_keep (kp [0,1,2,6,27] rfl) (r_cond _ rfl (fun h2=>?_) (fun h2=>?_)))
  ·skip
   have hc:w=[119,111,114,108,100]∧l.length=0:=by simpa using h2
   have hk:askO t w l=some (t,([119,111,114,108,100]++numsL (worldT t))++[10]):=by unfold askO;rw[if_neg hn0,if_pos hc];rfl
   refine r_sr (p_mv rfl rfl (p_nil rfl rfl (p_fa fa_46_1 rfl rfl (l_op (x_r (rv_ldc tc_39 (bd_cell (SelX.ent (X:=bdP b tb u))) (.n rfl) rfl rfl fR) rfl rfl ?_)))))
   refine p_callv cf_60 (.c rfl .n) rfl ((town_World _ tb t hTI).q) ?_
   refine p_alloc zr_38 rfl fun b7=>?_
   refine p_store (.ofA ta_38) rfl rfl rfl (by first|rfl|exact (by first|rfl|assumption|(simp only[List.drop_zero,List.length_map];assumption)|(simp[*];done))) (by first|rfl|exact (by first|rfl|simp[vI,Value.oneCell'])) (Ins.whole (by simp;omega)) ?_
   refine o_keep (kp [0,6,7] rfl) (r_region (p_mv rfl rfl (l_op (x_p (pv_slarr Tryz.underlying38 (.ofC tc_3) (by decide) (.n rfl) rfl rfl fR) rfl rfl ?_))))
   refine p_callv cf_61 (.c rfl .n) rfl (desk_nums _ _ L _ (worldT t) (rd_world hw6) (by omega) hI.world) ?_
   refine l_op (x_p (pv_sadd (fun _=>by (try simp only[List.length_append,List.length_cons,List.length_nil]);omega) (.n rfl) rfl rfl rfl fS) rfl rfl ?_)
   refine p_bsl Tryz.underlying22 (.ofC tc_9) zr_9 (.c rfl rfl rfl .n) (rows:=([[119,111,114,108,100]++numsL (worldT t)]:List (List UInt8)).map rS) rfl rfl rfl rfl fun b44 hr44=>?_
   refine p_callc cf_29 (.c rfl (.c rfl .n)) rfl (desk_say _ b tb u _ [[119,111,114,108,100]++numsL (worldT t)] ([119,111,114,108,100]++numsL (worldT t)) (join1 _) (by simp) (by simp;omega)) ?_
   refine o_keep (kp [6] rfl) (r_end (r_sr (p_as rfl rfl (o_keep (kp [6] rfl) ?_))))
   refine r_retv hF rfl (.c (.t rfl) .n) ?_ ?_
   ·rw[hk];dsimp only[askU,Option.getD_some,Option.getD_none];apply eI;repeat constructor
   ·rw[hk];rfl
  ·skip
   have hn1:¬ (w=[119,111,114,108,100]∧l.length=0):=fun hh=>by simp[hh.1,hh.2] at h2
   refine r_sr (p_mv rfl rfl (l_op (x_p (pv_seq (.n rfl) rfl rfl rfl fS) rfl rfl (p_mv rfl rfl (l_op (x_p (pv_mv (.s rfl rfl rfl) rfl rfl gA) rfl rfl ?_))))))
   refine l_op (x_p (pv_lens (Rd.len hv) ⟨_,Tryz.underlying65⟩ (.s rfl rfl rfl) rfl rfl rfl rfl gA) rfl rfl ?_)
   refine l_op (x_p (pv_eql (.s rfl rfl rfl) rfl rfl rfl gB) rfl rfl ?_)
   refine l_op (x_p (pv_and (.n rfl) rfl rfl rfl (fun _=>⟨rfl,fun hc=>by first|rfl|(rw[hc];rfl)|simp_all⟩)) rfl rfl ?_)
   refine p_as rfl rfl (o_keep (kp [0,1,2,6,46] rfl) (r_cond _ rfl (fun h3=>?_) (fun h3=>?_)))
   ·skip
    have hc:w=[115,101,114,105,97,108]∧l.length=0:=by simpa using h3
    have hk:askO t w l=some (t,([119,111,114,108,100]++numsL (serialT t).1)++[10]):=by unfold askO;rw[if_neg hn0,if_neg hn1,if_pos hc];rw[if_neg (by simp[hs0])];rfl
    refine r_sr (p_mv rfl rfl (p_nil rfl rfl (p_fa fa_46_1 rfl rfl (l_op (x_r (rv_ldc tc_39 (bd_cell (SelX.ent (X:=bdP b tb u))) (.n rfl) rfl rfl fR) rfl rfl ?_)))))
    refine p_callv cf_62 (.c rfl .n) rfl ((town_Serial _ tb t hTI).q) ?_
    refine p_mv rfl rfl (p_ext rfl rfl rfl (p_ext rfl rfl rfl (p_alloc zr_38 rfl fun b8=>?_)))
    refine p_store (.ofA ta_38) rfl rfl rfl (by first|rfl|exact (by first|rfl|assumption|(simp only[List.drop_zero,List.length_map];assumption)|(simp[*];done))) (by first|rfl|exact (by first|rfl|simp[vI,Value.oneCell'])) (Ins.whole (by simp;omega)) ?_
    refine p_as rfl rfl (o_keep (kp [0,6,8,9] rfl) (r_seq (r_sr (p_mv rfl rfl (p_neq rfl rfl rfl (o_keep (kp [0,6,8,9,63] rfl) (r_cond _ rfl (fun h4=>?_) (fun h4=>?_))))))))
    ·simp[hs0] at h4
    ·skip
     refine r_skip (r_region (p_mv rfl rfl (l_op (x_p (pv_slarr Tryz.underlying38 (.ofC tc_3) (by decide) (.n rfl) rfl rfl fR) rfl rfl ?_))))
     refine p_callv cf_61 (.c rfl .n) rfl (desk_nums _ _ L _ (serialT t).1 (rd_world hs6) (by omega) hs7) ?_
     refine l_op (x_p (pv_sadd (fun _=>by (try simp only[List.length_append,List.length_cons,List.length_nil]);omega) (.n rfl) rfl rfl rfl fS) rfl rfl ?_)
     refine p_bsl Tryz.underlying22 (.ofC tc_9) zr_9 (.c rfl rfl rfl .n) (rows:=([[119,111,114,108,100]++numsL (serialT t).1]:List (List UInt8)).map rS) rfl rfl rfl rfl fun b71 hr71=>?_
     refine p_callc cf_29 (.c rfl (.c rfl .n)) rfl (desk_say _ b tb u _ [[119,111,114,108,100]++numsL (serialT t).1] ([119,111,114,108,100]++numsL (serialT t).1) (join1 _) (by simp) (by simp;omega)) ?_
     refine o_keep (kp [6] rfl) (r_end (r_sr (p_as rfl rfl (o_keep (kp [6] rfl) ?_))))
     refine r_retv hF rfl (.c (.t rfl) .n) ?_ ?_
     ·rw[hk];dsimp only[askU,Option.getD_some,Option.getD_none];apply eI;repeat constructor
     ·rw[hk];rfl
   ·skip
    have hn2:¬ (w=[115,101,114,105,97,108]∧l.length=0):=fun hh=>by simp[hh.1,hh.2] at h3
    refine r_sr (p_mv rfl rfl (l_op (x_p (pv_seq (.n rfl) rfl rfl rfl fS) rfl rfl (p_mv rfl rfl (l_op (x_p (pv_mv (.s rfl rfl rfl) rfl rfl gA) rfl rfl ?_))))))
    refine l_op (x_p (pv_lens (Rd.len hv) ⟨_,Tryz.underlying65⟩ (.s rfl rfl rfl) rfl rfl rfl rfl gA) rfl rfl ?_)
    refine l_op (x_p (pv_eql (.s rfl rfl rfl) rfl rfl rfl gB) rfl rfl ?_)
    refine l_op (x_p (pv_and (.n rfl) rfl rfl rfl (fun _=>⟨rfl,fun hc=>by first|rfl|(rw[hc];rfl)|simp_all⟩)) rfl rfl ?_)
    refine p_as rfl rfl (o_keep (kp [0,1,2,6,73] rfl) (r_cond _ rfl (fun h5=>?_) (fun h5=>?_)))
    ·skip
     have hc:w=[115,116,97,116,101]∧l.length=1:=by simp at h5;exact⟨h5.1,by have:=h5.2;omega⟩
     obtain⟨x,hx⟩:=getlt (l:=l) (i:=0) (by omega)
     have hsx:=hsi x
     have hx0:l.getD 0 0=x:=by rw[List.getD_eq_getElem?_getD,hx];rfl
     have hk:askO t w l=some (t,([115,116,97,116,101]++(32::Lib.itoa (stateB t.b x)))++[10]):=by unfold askO;rw[if_neg hn0,if_neg hn1,if_neg hn2,if_pos hc];rw[hx0];rfl
     refine r_sel (townP tb t) ?_
     refine r_town fun bb c0 c1 c2 pb=>?_
     refine r_cat ?_
     refine r_plan _ [] mo (kp [0,2,6] rfl) Ent.rfl ?_
     refine yp 0 [.k 0] rfl rfl (by kernel_rfl) (u_mv rfl rfl rfl) (yp 1 [.k 0] rfl rfl (by kernel_rfl) (u_mv rfl rfl rfl) (yp 2 [.o 1] rfl rfl (by kernel_rfl) (u_nil rfl rfl rfl) (yp 3 [.o 2] rfl rfl (by kernel_rfl) (u_fa fa_46_1 rfl rfl rfl) ?_)))
     refine yr 4 [.o 3] rfl rfl (by kernel_rfl) (fun He=>rv_ldc tc_39 (bd_cell (SelX.ent (X:=bdP b tb u))) (.n rfl) rfl rfl fR) ?_
     refine yp 5 [.o 4] rfl rfl (by kernel_rfl) (u_nil rfl rfl rfl) (yp 6 [.o 5] rfl rfl (by kernel_rfl) (u_fa fa_62_0 rfl rfl rfl) (yr 7 [.o 6] rfl rfl (by kernel_rfl) (fun He=>u_ldc tc_55 rfl rfl rfl (by rfl)) ?_))
     refine yp 8 [.k 2] rfl rfl (by kernel_rfl) (u_mv rfl rfl rfl) (yp 9 [.o 8] rfl rfl (by kernel_rfl) (pv_idx Tryz.underlying65 (.ofC tc_3) hv (fun hg=>⟨rfl,(mapget hx)⟩) (.n rfl) rfl rfl rfl fS) ?_)
     refine yr 10 [.o 9] rfl rfl (by kernel_rfl) (fun He=>rv_ldat (j:=0) tc_3 (Rd.ent hv (eJ (by repeat constructor))) (fun hg=>(mapget hx)) (.n rfl) rfl rfl fR rfl fR) ?_
     refine yq 11 [.o 7,.o 10] rfl rfl (by kernel_rfl) (fun He=>rq_call cf_63 (.n rfl) rfl (.c rfl fR (.c rfl fR .n)) (fun hg=>(broker_State _ bb t.b hTI.b x).q)) ?_
     refine yq 12 [.o 11] rfl rfl (by kernel_rfl) (fun He=>rq_call cf_28 (.n rfl) rfl (.c rfl fR .n) (fun hg=>desk_num _ _ L (stateB t.b x) (hTI.b.state x))) ?_
     refine qm_bsl Tryz.underlying22 (.ofC tc_9) zr_9 (i:=13) [.o 12] (by kernel_rfl) (by kernel_rfl) rfl rfl rfl rfl (by kernel_rfl) (by kernel_rfl) ⟨_,.n rfl,rfl⟩ rfl (.c rfl rfl rfl (.c rfl rfl rfl .n)) (rows:=([[115,116,97,116,101],Lib.itoa (stateB t.b x)]:List (List UInt8)).map rS) rfl rfl rfl fun b94 hr94=>?_
     refine qb_callc (i:=14) [.o 0,.o 13] (by kernel_rfl) (by kernel_rfl) rfl rfl rfl rfl (by kernel_rfl) (by kernel_rfl) (by kernel_rfl) ⟨_,.n rfl,rfl⟩ cf_29 rfl (.c rfl (.c rfl .n)) (desk_say _ b tb u _ [[115,116,97,116,101],Lib.itoa (stateB t.b x)] ([115,116,97,116,101]++(32::Lib.itoa (stateB t.b x))) (join2 _ _) (by simp) (by simp;omega)) ?_
     refine qm_n (by kernel_rfl) (by kernel_rfl) (by kernel_rfl) (by kernel_rfl) (kp [6] rfl) ?_
     refine r_end (r_sr (p_as rfl rfl (o_keep (kp [6] rfl) ?_)))
     refine r_retv hF rfl (.c (.t rfl) .n) ?_ ?_
     ·rw[hk];dsimp only[askU,Option.getD_some,Option.getD_none];refine Ent.catI ?_;refine Ent.c (SelX.ent) ?_;refine Ent.c (townP_close (t:=t) bb c0 c1 c2 pb rfl) ?_;apply eI;repeat constructor
     ·rw[hk];rfl
    ·skip
     have hn3:¬ (w=[115,116,97,116,101]∧l.length=1):=fun hh=>by simp[hh.1,hh.2] at h5
     refine r_sr (p_mv rfl rfl (l_op (x_p (pv_seq (.n rfl) rfl rfl rfl fS) rfl rfl (p_mv rfl rfl (l_op (x_p (pv_mv (.s rfl rfl rfl) rfl rfl gA) rfl rfl ?_))))))
     refine l_op (x_p (pv_lens (Rd.len hv) ⟨_,Tryz.underlying65⟩ (.s rfl rfl rfl) rfl rfl rfl rfl gA) rfl rfl ?_)
     refine l_op (x_p (pv_eql (.s rfl rfl rfl) rfl rfl rfl gB) rfl rfl ?_)
     refine l_op (x_p (pv_and (.n rfl) rfl rfl rfl (fun _=>⟨rfl,fun hc=>by first|rfl|(rw[hc];rfl)|simp_all⟩)) rfl rfl ?_)
     refine p_as rfl rfl (o_keep (kp [0,1,2,6,96] rfl) (r_cond _ rfl (fun h6=>?_) (fun h6=>?_)))
     ·skip
      have hc:w=[100,111,110,101]∧l.length=0:=by simpa using h6
      have hk:askO t w l=some (t,([100,111,110,101]++numsL t.b.order)++[10]):=by unfold askO;rw[if_neg hn0,if_neg hn1,if_neg hn2,if_neg hn3,if_pos hc];rfl
      refine r_sel (townP tb t) ?_
      refine r_town fun bb c0 c1 c2 pb=>?_
      refine r_cat ?_
      refine r_region (p_mv rfl rfl (p_mv rfl rfl (p_nil rfl rfl (p_fa fa_46_1 rfl rfl (l_op (x_r (rv_ldc tc_39 (bd_cell (SelX.ent (X:=bdP b tb u))) (.n rfl) rfl rfl fR) rfl rfl ?_))))))
      refine p_nil rfl rfl (p_fa fa_62_0 rfl rfl (p_ldc tc_55 rfl (by rfl) rfl ?_))
      refine p_calle cf_64 (.c rfl .n) rfl (broker_Done _ bb t.b hTI.b (by omega)) fun ov=>?_
      refine o_cat ?_
      refine o_rd ov fun hro=>?_
      refine p_callv cf_61 (.c rfl .n) rfl (desk_nums _ _ L _ t.b.order (Rd.ent hro (eJ (by repeat constructor))) (by omega) hTI.b.order) ?_
      refine l_op (x_p (pv_sadd (fun _=>by (try simp only[List.length_append,List.length_cons,List.length_nil]);omega) (.n rfl) rfl rfl rfl fS) rfl rfl ?_)
      refine p_bsl Tryz.underlying22 (.ofC tc_9) zr_9 (.c rfl rfl rfl .n) (rows:=([[100,111,110,101]++numsL t.b.order]:List (List UInt8)).map rS) rfl rfl rfl rfl fun b115 hr115=>?_
      refine p_callc cf_29 (.c rfl (.c rfl .n)) rfl (desk_say _ b tb u _ [[100,111,110,101]++numsL t.b.order] ([100,111,110,101]++numsL t.b.order) (join1 _) (by simp) (by simp;omega)) ?_
      refine o_keep (kp [6] rfl) (r_end (r_sr (p_as rfl rfl (o_keep (kp [6] rfl) ?_))))
      refine r_retv hF rfl (.c (.t rfl) .n) ?_ ?_
      ·rw[hk];dsimp only[askU,Option.getD_some,Option.getD_none];refine Ent.catI ?_;refine Ent.c (SelX.ent) ?_;refine Ent.c (townP_close (t:=t) bb c0 c1 c2 pb rfl) ?_;apply eI;repeat constructor
      ·rw[hk];rfl
     ·skip
      have hn4:¬ (w=[100,111,110,101]∧l.length=0):=fun hh=>by simp[hh.1,hh.2] at h6
      refine r_sr (p_mv rfl rfl (l_op (x_p (pv_seq (.n rfl) rfl rfl rfl fS) rfl rfl (p_mv rfl rfl (l_op (x_p (pv_mv (.s rfl rfl rfl) rfl rfl gA) rfl rfl ?_))))))
      refine l_op (x_p (pv_lens (Rd.len hv) ⟨_,Tryz.underlying65⟩ (.s rfl rfl rfl) rfl rfl rfl rfl gA) rfl rfl ?_)
      refine l_op (x_p (pv_eql (.s rfl rfl rfl) rfl rfl rfl gB) rfl rfl ?_)
      refine l_op (x_p (pv_and (.n rfl) rfl rfl rfl (fun _=>⟨rfl,fun hc=>by first|rfl|(rw[hc];rfl)|simp_all⟩)) rfl rfl ?_)
      refine p_as rfl rfl (o_keep (kp [0,1,2,6,117] rfl) (r_cond _ rfl (fun h7=>?_) (fun h7=>?_)))
      ·skip
       have hc:w=[109,97,105,108]∧l.length=0:=by simpa using h7
       have hk:askO t w l=some (t,mailsS t.post):=by unfold askO;rw[if_neg hn0,if_neg hn1,if_neg hn2,if_neg hn3,if_neg hn4,if_pos hc];skip
       refine r_region (p_mv rfl rfl (p_mv rfl rfl (p_nil rfl rfl (p_fa fa_46_1 rfl rfl (l_op (x_r (rv_ldc tc_39 (bd_cell (SelX.ent (X:=bdP b tb u))) (.n rfl) rfl rfl fR) rfl rfl ?_))))))
       refine p_calle cf_66 (.c rfl .n) rfl (town_Mail _ tb t hTI) fun mv=>?_
       refine o_cat ?_
       refine p_callc cf_65 (.c rfl (.c rfl .n)) rfl (desk_mails _ L b tb u mv t.post hI.mr (by omega) hu) ?_
       refine o_keep (kp [6] rfl) (r_end (r_sr (p_as rfl rfl (o_keep (kp [6] rfl) ?_))))
       refine r_retv hF rfl (.c (.t rfl) .n) ?_ ?_
       ·rw[hk];dsimp only[askU,Option.getD_some,Option.getD_none];apply eI;repeat constructor
       ·rw[hk];rfl
      ·skip
       have hn5:¬ (w=[109,97,105,108]∧l.length=0):=fun hh=>by simp[hh.1,hh.2] at h7
       refine r_sr (p_mv rfl rfl (l_op (x_p (pv_seq (.n rfl) rfl rfl rfl fS) rfl rfl (p_mv rfl rfl (l_op (x_p (pv_mv (.s rfl rfl rfl) rfl rfl gA) rfl rfl ?_))))))
       refine l_op (x_p (pv_lens (Rd.len hv) ⟨_,Tryz.underlying65⟩ (.s rfl rfl rfl) rfl rfl rfl rfl gA) rfl rfl ?_)
       refine l_op (x_p (pv_eql (.s rfl rfl rfl) rfl rfl rfl gB) rfl rfl ?_)
       refine l_op (x_p (pv_and (.n rfl) rfl rfl rfl (fun _=>⟨rfl,fun hc=>by first|rfl|(rw[hc];rfl)|simp_all⟩)) rfl rfl ?_)
       refine p_as rfl rfl (o_keep (kp [0,1,2,6,132] rfl) (r_cond _ rfl (fun h8=>?_) (fun h8=>?_)))
       ·skip
        have hc:w=[100,117,101]∧l.length=0:=by simpa using h8
        have hk:askO t w l=some (t,mailsS (dueB t.b)):=by unfold askO;rw[if_neg hn0,if_neg hn1,if_neg hn2,if_neg hn3,if_neg hn4,if_neg hn5,if_pos hc];skip
        refine r_sel (townP tb t) ?_
        refine r_town fun bb c0 c1 c2 pb=>?_
        refine r_cat ?_
        refine r_region (p_mv rfl rfl (p_mv rfl rfl (p_nil rfl rfl (p_fa fa_46_1 rfl rfl (l_op (x_r (rv_ldc tc_39 (bd_cell (SelX.ent (X:=bdP b tb u))) (.n rfl) rfl rfl fR) rfl rfl ?_))))))
        refine p_nil rfl rfl (p_fa fa_62_0 rfl rfl (p_ldc tc_55 rfl (by rfl) rfl ?_))
        refine p_calle cf_67 (.c rfl .n) rfl (broker_Due _ bb t.b hTI.b) fun dv=>?_
        refine o_cat ?_
        refine p_callc cf_65 (.c rfl (.c rfl .n)) rfl (desk_mails _ L b tb u dv (dueB t.b) (fun m hm=>hI.due hm) (by omega) hu) ?_
        refine o_keep (kp [6] rfl) (r_end (r_sr (p_as rfl rfl (o_keep (kp [6] rfl) ?_))))
        refine r_retv hF rfl (.c (.t rfl) .n) ?_ ?_
        ·rw[hk];dsimp only[askU,Option.getD_some,Option.getD_none];refine Ent.catI ?_;refine Ent.c (SelX.ent) ?_;refine Ent.c (townP_close (t:=t) bb c0 c1 c2 pb rfl) ?_;apply eI;repeat constructor
        ·rw[hk];rfl
       ·skip
        have hn6:¬ (w=[100,117,101]∧l.length=0):=fun hh=>by simp[hh.1,hh.2] at h8
        refine r_sr (p_mv rfl rfl (l_op (x_p (pv_seq (.n rfl) rfl rfl rfl fS) rfl rfl (p_mv rfl rfl (l_op (x_p (pv_mv (.s rfl rfl rfl) rfl rfl gA) rfl rfl ?_))))))
        refine l_op (x_p (pv_lens (Rd.len hv) ⟨_,Tryz.underlying65⟩ (.s rfl rfl rfl) rfl rfl rfl rfl gA) rfl rfl ?_)
        refine l_op (x_p (pv_eql (.s rfl rfl rfl) rfl rfl rfl gB) rfl rfl ?_)
        refine l_op (x_p (pv_and (.n rfl) rfl rfl rfl (fun _=>⟨rfl,fun hc=>by first|rfl|(rw[hc];rfl)|simp_all⟩)) rfl rfl ?_)
        refine p_as rfl rfl (o_keep (kp [0,2,6,150] rfl) (r_cond _ rfl (fun h9=>?_) (fun h9=>?_)))
        ·skip
         have hc:w=[104,111,108,100,115]∧l.length=1:=by simp at h9;exact⟨h9.1,by have:=h9.2;omega⟩
         obtain⟨x,hx⟩:=getlt (l:=l) (i:=0) (by omega)
         have hsx:=hsi x
         have hx0:l.getD 0 0=x:=by rw[List.getD_eq_getElem?_getD,hx];rfl
         have hk:askO t w l=some (t,shopS t x):=by unfold askO;rw[if_neg hn0,if_neg hn1,if_neg hn2,if_neg hn3,if_neg hn4,if_neg hn5,if_neg hn6,if_pos hc,hx0]
         refine r_region (p_mv rfl rfl (p_mv rfl rfl (p_idx Tryz.underlying65 (.ofC tc_3) hv rfl (mapget hx) rfl rfl rfl (p_ldat 0 tc_3 (Rd.ent hv (eJ (by repeat constructor))) (mapget hx) rfl rfl rfl rfl ?_))))
         refine p_callc cf_68 (.c rfl (.c rfl .n)) rfl (desk_shop _ L b tb u t hI x hu) ?_
         refine o_keep (kp [6] rfl) (r_end (r_sr (p_as rfl rfl (o_keep (kp [6] rfl) ?_))))
         refine r_retv hF rfl (.c (.t rfl) .n) ?_ ?_
         ·rw[hk];dsimp only[askU,Option.getD_some,Option.getD_none];apply eI;repeat constructor
         ·rw[hk];rfl
        ·skip
         have hn7:¬ (w=[104,111,108,100,115]∧l.length=1):=fun hh=>by simp[hh.1,hh.2] at h9
         have hk:askO t w l=none:=by unfold askO;rw[if_neg hn0,if_neg hn1,if_neg hn2,if_neg hn3,if_neg hn4,if_neg hn5,if_neg hn6,if_neg hn7]
         refine r_sr (p_as rfl rfl (o_keep (kp [6] rfl) ?_))
         refine r_retv hF rfl (.c (.t rfl) .n) ?_ ?_
         ·rw[hk];dsimp only[askU,Option.getD_some,Option.getD_none];rw[List.append_nil];apply eI;repeat constructor
         ·rw[hk];rfl
end Go.Proofs.YtmakdilmibjpbaaGreatDoor
