/- The walks of DeskF: written by a program of ours (gen.py) over the engine. The walks of DeskG: written by a program of ours (gen.py) over the engine. -/
import Derived.Test.YtmakdilmibjpbaaGreatDoorWants
import Derived.Test.YtmakdilmibjpbaaGreatDoorFacts
import Derived.Test.YtmakdilmibjpbaaGreatDoorDeskE
namespace Go.Proofs.YtmakdilmibjpbaaGreatDoor
open Go Go.RowKit
set_option linter.unusedVariables false
set_option linter.unusedSimpArgs false
set_option maxRecDepth 20000
theorem parseL_app:∀ (a:List (List UInt8)) (w:List UInt8) (ns:List Int) (v:Int),parseL a=some ns→parseN w=some v→parseL (a++[w])=some (ns++[v])
  | [],w,ns,v,h,hv=>by cases h;simp[parseL,hv]
  | x::a,w,ns,v,h,hv=>by
    unfold parseL at h
    cases hx:parseN x with
    | none=>rw[hx] at h;cases h
    | some y=>
      cases hr:parseL a with
      | none=>rw[hx,hr] at h;cases h
      | some ys=>
        rw[hx,hr] at h;cases h
        have:=parseL_app a w ys v hr hv
        simp[parseL,hx,this]
theorem parseL_next{l:List (List UInt8)}{i:Nat}{w:List UInt8}{ns:List Int}{v:Int}(h:parseL (l.take i)=some ns)(hw:l[i]?=some w)(hv:parseN w=some v):parseL (l.take (i+1))=some (ns++[v]):=by
  rw[List.take_add_one,hw];exact parseL_app _ w ns v h hv
theorem lineT_0{t:TownS}{s:List UInt8}(h:wordsL s=[]):lineT t s=(t,[]):=by unfold lineT;rw[h]
theorem lineT_no{t:TownS}{s w0:List UInt8}{ws:List (List UInt8)}(h:wordsL s=w0::ws)(hp:parseL ws=none):lineT t s=(t,[119,104,97,116]++[10]):=by unfold lineT;rw[h];dsimp only;rw[hp];rfl
theorem lineT_yes{t:TownS}{s w0:List UInt8}{ws:List (List UInt8)}{ns:List Int}(h:wordsL s=w0::ws)(hp:parseL ws=some ns):lineT t s=cmdT t w0 ns:=by unfold lineT;rw[h];dsimp only;rw[hp]
theorem parseN_at{w:List UInt8}{v:Int}(h:Lib.atoiAll w=.ok v):parseN w=if Lib.itoa v=w then some v else none:=by unfold parseN;rw[h]
theorem parseN_err{w:List UInt8}(h:∀ v,Lib.atoiAll w≠.ok v):parseN w=none:=by
  unfold parseN;split
  · rename_i u hu;exact absurd hu (h u)
  · rfl
theorem desk_line (M:Amb)(L:LibOk M)(b tb:Nat)(u:List UInt8)(t:TownS)(hD:DInv t)(s:List UInt8)(hs:s.length≤20000)(hu:u.length≤1000000000):FnC Tryz.prog M 15 [ptr b,str s] (resVal []) [bdP b tb u,townP tb t] [bdP b tb (u++(lineT t s).2),townP tb (lineT t s).1]:=by
 have hsl:=spl_len s
 have hwl:=wordsL_len s
 refine fnc_intro Tryz.func15 rfl Tryz.ntmps15 rfl fun R F hF=>?_
 refine r_cat ?_
 refine r_sr (p_mv rfl rfl ?_)
 refine p_calle cf_25 (.c rfl (.c rfl .n)) rfl (lib_Split L s (by omega)) fun sv=>?_
 refine o_cat ?_
 refine p_calle cf_24 (.c rfl (.c rfl .n)) rfl (str_DeleteFunc _ sv (spl s) (List.length_pos_iff.2 (spl_ne s)) (by omega) 26 cf_26 (fun H s=>desk_line1 _ H s)) fun wv=>?_
 refine o_cat ?_
 rw[← wordsL_eq]
 refine o_rd wv fun hrw=>?_
 refine p_as rfl rfl (o_keep (kp [0,4] rfl) (r_seq (r_seq ?_)))
 rcases hws:wordsL s with _|⟨w0,ws⟩
 ·skip
  have hln:=lineT_0 (t:=t) hws
  rw[hws] at hrw
  refine r_region (p_mv rfl rfl (l_op (x_p (pv_lens (Rd.len hrw) ⟨_,Tryz.underlying22⟩ (.n rfl) rfl rfl rfl rfl fR) rfl rfl (p_eql rfl rfl rfl (o_keep (kp [0,4,15] rfl) (r_cond _ rfl (fun h1=>?_) (fun h1=>?_)))))))
  ·skip
   refine r_retv hF rfl .n ?_ ?_
   ·rw[hln];rw[List.append_nil];apply eI;repeat constructor
   ·rfl
  ·exact absurd rfl (of_decide_eq_false h1)
 ·skip
  rw[hws] at hrw
  have hlw:ws.length+1≤s.length+1:=by rw[hws] at hwl;exact hwl
  have hw0:(w0::ws)[0]?=some w0:=rfl
  refine r_region (p_mv rfl rfl (l_op (x_p (pv_lens (Rd.len hrw) ⟨_,Tryz.underlying22⟩ (.n rfl) rfl rfl rfl rfl fR) rfl rfl (p_eql rfl rfl rfl (o_keep (kp [0,4,15] rfl) (r_cond _ rfl (fun h2=>?_) (fun h2=>?_)))))))
  ·exfalso;have hd:=of_decide_eq_true h2;rw[List.length_cons] at hd;omega
  ·skip
   refine r_skip (r_sr (p_as rfl rfl (o_keep (kp [0,4,5] rfl) (r_seq (r_sr (p_mv rfl rfl ?_))))))
   refine l_op (x_p (pv_slc (l:=1) (h:=((w0::ws).map rS).length) Tryz.underlying22 (.ofC tc_9) (Rd.ent hrw (eJ (by repeat constructor))) (by simp) (Nat.le_refl _) rfl rfl rfl (.inr ⟨_,_,rfl,rfl,rfl⟩) (.inl ⟨rfl,rfl,rfl⟩)) rfl rfl ?_)
   have hrt:Rd M [sl wv 9 1 ((w0::ws).map rS)] (resl wv 1 1 ((w0::ws).map rS).length) 1 (ws.map rS):=(Rd.resl hrw (l:=1) (h:=((w0::ws).map rS).length) (by simp) (Nat.le_refl _)).to (by rw[List.take_length];rfl)
   refine l_op (x_p (pv_lens (Rd.len hrt) ⟨_,Tryz.underlying22⟩ (.n rfl) rfl rfl rfl rfl fR) rfl rfl (p_mv rfl rfl (o_keep (kp [0,4,5,17,18,19] rfl) (r_block ?_))))
   refine r_loop_3 (fun (i:Nat) (nv:Value) (ns:List Int)=>[(19,true,.int .i64 (i:Int)),(5,true,nv)]) (kp [0,4,17,18] rfl) (fun (i:Nat) (nv:Value) (ns:List Int)=>sl nv 3 1 (ns.map rI)::sl wv 9 1 ((w0::ws).map rS)::bdP b tb u::townP tb t::R) (fun (i:Nat) (nv:Value) (ns:List Int)=>i≤ws.length∧ns.length=i∧parseL (ws.take i)=some ns) (fun (i:Nat) (nv:Value) (ns:List Int)=>ws.length - i) (0) (.slice Option.none 0 0) ([]) ?_ (kp [19,5] rfl) ?_ (fun i nv ns hI=>?_)
   ·exact⟨Nat.zero_le _,rfl,rfl⟩
   ·apply eI;repeat constructor
   ·skip
    obtain⟨hi0,hnl,hP⟩:=hI
    refine r_sr (p_lss rfl rfl rfl (o_keep (kp [0,4,5,17,18,19,20] rfl) (r_seq (r_cond _ rfl (fun h3=>?_) (fun h3=>?_)))))
    ·skip
     obtain⟨w,hw⟩:=getlt (l:=ws) (i:=i) (by have:=of_decide_eq_true h3;omega)
     have hil:=(List.getElem?_eq_some_iff.1 hw).1
     have hwm:w.length≤s.length:=wordsL_mem (by rw[hws];exact List.mem_cons_of_mem _ (List.mem_of_getElem? hw))
     refine r_skip (r_seq (r_block (r_sr (p_idx Tryz.underlying22 (.ofC tc_9) hrt rfl (mapget hw) rfl rfl rfl (p_ldat 0 tc_9 (Rd.ent hrt (eJ (by repeat constructor))) (mapget hw) rfl rfl rfl rfl ?_)))))
     refine p_as rfl rfl (o_keep (kp [0,4,5,7,17,18,19] rfl) (r_seq ?_))
     rcases (show (∃ v,Lib.atoiAll w=.ok v)∨∀ v,Lib.atoiAll w≠.ok v from by by_cases h:∃ v,Lib.atoiAll w=.ok v;exact .inl h;exact .inr fun v hv=>h ⟨v,hv⟩) with ⟨v,hat⟩|hat
     ·skip
      have hv64:i64 v:=Lib.atoiAll_bounds hat
      have hitl:=Lib.itoa_length_le (v) hv64.1 hv64.2
      have hpa:=parseN_at hat
      refine r_region (p_mv rfl rfl ?_)
      refine p_callv cf_27 (.c rfl .n) rfl (lib_Atoi_ok _ w (by omega) hat) ?_
      refine p_mv rfl rfl (p_ext rfl rfl rfl (p_ext rfl rfl rfl (p_as rfl rfl (p_as rfl rfl (o_keep (kp [0,4,5,7,8,9,17,18,19] rfl) (r_seq (r_sr ?_)))))))
      refine p_mv rfl rfl (l_op (x_p (pv_inil0 Tryz.underlying80 (.n rfl) rfl rfl fR) rfl rfl (p_mv rfl rfl (l_op (x_p (pv_mv (.s rfl rfl rfl) rfl rfl gA) rfl rfl ?_)))))
      refine l_op (x_q (rq_call cf_28 (.s rfl rfl rfl) rfl (.c rfl gA .n) (fun hg=>desk_num _ _ L v hv64)) rfl rfl ?_)
      refine l_op (x_p (pv_mv (.s rfl rfl rfl) rfl rfl gA) rfl rfl ?_)
      refine l_op (x_p (pv_sne (.s rfl rfl rfl) rfl rfl rfl gB) rfl rfl ?_)
      refine l_op (x_p (pv_or (.n rfl) rfl rfl rfl (fun _=>⟨rfl,fun hc=>by first|rfl|(rw[hc];rfl)|simp_all⟩)) rfl rfl ?_)
      refine o_keep (kp [0,4,5,8,17,18,19,35] rfl) (r_cond _ rfl (fun h4=>?_) (fun h4=>?_))
      ·skip
       have hne:¬ Lib.itoa v=w:=by simpa using h4
       rw[if_neg hne] at hpa
       have hln:=lineT_no (t:=t) hws (parseN_none hw hpa)
       refine r_sr (p_mv rfl rfl ?_)
       refine p_bsl Tryz.underlying22 (.ofC tc_9) zr_9 (.c rfl rfl rfl .n) (rows:=([[119,104,97,116]]:List (List UInt8)).map rS) rfl rfl rfl rfl fun b37 hr37=>?_
       refine p_callc cf_29 (.c rfl (.c rfl .n)) rfl (desk_say _ b tb u _ [[119,104,97,116]] ([119,104,97,116]) (join1 _) (by simp) (by simp;omega)) ?_
       refine o_keep (kp [0,4,5,8,17,18,19] rfl) ?_
       refine r_retv hF rfl .n ?_ ?_
       ·rw[hln];apply eI;repeat constructor
       ·rfl
      ·skip
       have heq:Lib.itoa v=w:=by simpa using h4
       rw[if_pos heq] at hpa
       have hP2:=parseL_next hP hw hpa
       refine r_skip (r_region (p_mv rfl rfl (p_mv rfl rfl ?_)))
       refine p_bsl Tryz.underlying65 (.ofC tc_3) zr_3 (.c rfl rfl rfl .n) (rows:=([v]:List Int).map rI) rfl rfl rfl rfl fun b41 hr41=>?_
       refine p_append Tryz.underlying65 el_3 rfl rfl rfl rfl rfl ((Rd.ent hr41 (eJ (by repeat constructor)))) (by simp;omega) fun v42=>?_
       refine o_rd v42 fun hr42=>?_
       refine p_as rfl rfl (o_keep (kp [0,4,5,17,18,19] rfl) (r_end (r_region (p_add rfl rfl (by omega) rfl (p_mv rfl rfl (o_keep (kp [0,4,5,17,18,19] rfl) ?_))))))
       refine r_back_3 (i+1) (v42) (ns++[v]) ?_ ?_ (Keep.app (kp [19,5] rfl) (kp [0,4,17,18] rfl)) ?_
       ·exact⟨by omega,by simp;omega,hP2⟩
       ·omega
       ·simp only[List.map_append,List.map_cons,List.map_nil];apply eI;repeat constructor
     ·skip
      have hpn:=parseN_err hat
      have hln:=lineT_no (t:=t) hws (parseN_none hw hpn)
      refine r_region (p_mv rfl rfl ?_)
      refine p_calle cf_27 (.c rfl .n) rfl (lib_Atoi_no L w (by omega) hat) fun e1=>?_
      refine o_cat ?_
      refine p_mv rfl rfl (p_ext rfl rfl rfl (p_ext rfl rfl rfl (p_as rfl rfl (p_as rfl rfl (o_keep (kp [0,4,5,7,8,9,17,18,19] rfl) (r_seq (r_sr ?_)))))))
      refine p_mv rfl rfl (l_op (x_p (pv_inil Tryz.underlying80 (.n rfl) rfl rfl fR) rfl rfl (p_mv rfl rfl (l_op (x_p (pv_mv (.s rfl rfl rfl) rfl rfl gA) rfl rfl ?_)))))
      refine l_op (x_q (rq_call cf_28 (.s rfl rfl rfl) rfl (.c rfl gA .n) (fun hg=>(absurd hg (by simp):FnV _ _ _ _ _ (str [])))) rfl rfl ?_)
      refine l_op (x_p (pv_mv (.s rfl rfl rfl) rfl rfl gA) rfl rfl ?_)
      refine l_op (x_p (pv_sne (.s rfl rfl rfl) rfl rfl rfl gB) rfl rfl ?_)
      refine l_op (x_p (pv_or (.n rfl) rfl rfl rfl (fun _=>⟨rfl,fun hc=>by first|rfl|(rw[hc];rfl)|simp_all⟩)) rfl rfl ?_)
      refine o_keep (kp [0,4,5,8,17,18,19,35] rfl) (r_cond _ rfl (fun h5=>?_) (fun h5=>?_))
      ·skip
       refine r_sr (p_mv rfl rfl ?_)
       refine p_bsl Tryz.underlying22 (.ofC tc_9) zr_9 (.c rfl rfl rfl .n) (rows:=([[119,104,97,116]]:List (List UInt8)).map rS) rfl rfl rfl rfl fun b37 hr37=>?_
       refine p_callc cf_29 (.c rfl (.c rfl .n)) rfl (desk_say _ b tb u _ [[119,104,97,116]] ([119,104,97,116]) (join1 _) (by simp) (by simp;omega)) ?_
       refine o_keep (kp [0,4,5,8,17,18,19] rfl) ?_
       refine r_retv hF rfl .n ?_ ?_
       ·rw[hln];apply eI;repeat constructor
       ·rfl
      ·simp at h5
    ·skip
     have hil:ws.length≤i:=by have:=of_decide_eq_false h3;omega
     rw[List.take_of_length_le hil] at hP
     have hcm:=lineT_yes (t:=t) hws hP
     refine r_rd nv fun hrn=>?_
     refine r_exit rfl (r_sr (p_mv rfl rfl (p_mv rfl rfl (p_idx Tryz.underlying22 (.ofC tc_9) hrw rfl (mapget hw0) rfl rfl rfl (p_ldat 0 tc_9 (Rd.ent hrw (eJ (by repeat constructor))) (mapget hw0) rfl rfl rfl rfl ?_)))))
     refine p_mv rfl rfl ?_
     refine p_callc cf_30 (.c rfl (.c rfl (.c rfl .n))) rfl (desk_step _ L b tb u t hD.ti w0 nv ns (by omega) hu) ?_
     refine p_not rfl rfl (p_mv rfl rfl ?_)
     refine o_split (t:=51) rfl (fun g6=>?_) (fun g6=>?_)
     ·skip
      have hk:stepK w0 ns=none:=by cases hq:stepK w0 ns with|none=>rfl|some y=>rw[hq] at g6;cases g6
      rw[hk]
      dsimp only[tellO]
      rw[List.append_nil]
      refine o_g (.s rfl rfl rfl) rfl (p_mv rfl rfl (o_g (.s rfl rfl rfl) rfl (p_mv rfl rfl (o_g (.s rfl rfl rfl) rfl (p_idx Tryz.underlying22 (.ofC tc_9) hrw rfl (mapget hw0) rfl rfl rfl (o_g (.s rfl rfl rfl) rfl ?_))))))
      refine p_ldat 0 tc_9 (Rd.ent hrw (eJ (by repeat constructor))) (mapget hw0) rfl rfl rfl rfl ?_
      refine o_g (.s rfl rfl rfl) rfl (p_mv rfl rfl (o_g (.s rfl rfl rfl) rfl ?_))
      refine p_callc cf_31 (.c rfl (.c rfl (.c rfl .n))) rfl (desk_ask _ L b tb u t hD w0 nv ns (by omega) hu) ?_
      refine o_g (.s rfl rfl rfl) rfl (p_not rfl rfl ?_)
      refine l_op (x_p (pv_and (.n rfl) rfl rfl rfl (fun _=>⟨rfl,fun hc=>by first|rfl|(rw[hc];rfl)|simp_all⟩)) rfl rfl ?_)
      refine o_keep (kp [0,59] rfl) (r_cond _ rfl (fun h7=>?_) (fun h7=>?_))
      ·skip
       have hk2:askO t w0 ns=none:=by cases hq:askO t w0 ns with|none=>rfl|some y=>rw[hq] at h7;cases h7
       have hln:lineT t s=(t,[119,104,97,116]++[10]):=by rw[hcm,cmdT_eq,hk,hk2];rfl
       rw[hk2]
       dsimp only[askU,Option.getD_none]
       rw[List.append_nil]
       refine r_region (p_mv rfl rfl ?_)
       refine p_bsl Tryz.underlying22 (.ofC tc_9) zr_9 (.c rfl rfl rfl .n) (rows:=([[119,104,97,116]]:List (List UInt8)).map rS) rfl rfl rfl rfl fun b61 hr61=>?_
       refine p_callc cf_29 (.c rfl (.c rfl .n)) rfl (desk_say _ b tb u _ [[119,104,97,116]] ([119,104,97,116]) (join1 _) (by simp) (by simp;omega)) ?_
       refine o_keep (.n) ?_
       refine r_fallc hF rfl ?_
       ·rw[hln];apply eI;repeat constructor
      ·skip
       have hk2:(askO t w0 ns).isSome=true:=by simpa using h7
       have hln:lineT t s=askU t (askO t w0 ns):=by rw[hcm,cmdT_eq,hk,if_neg (by simp),if_pos hk2]
       refine r_skip ?_
       refine r_fallc hF rfl ?_
       ·rw[hln];apply eI;repeat constructor
     ·skip
      have hk:(stepK w0 ns).isSome=true:=by simpa using g6
      have hln:lineT t s=tellO t (stepK w0 ns):=by rw[hcm,cmdT_eq,if_pos hk]
      refine o_ng (.s rfl rfl rfl) rfl rfl (o_ng (.s rfl rfl rfl) rfl rfl (o_ng (.s rfl rfl rfl) rfl rfl (o_ng (.s rfl rfl rfl) rfl rfl (o_ng (.s rfl rfl rfl) rfl rfl (o_ng (.s rfl rfl rfl) rfl rfl (o_ng (.s rfl rfl rfl) rfl rfl (l_op (x_p (pv_andf (.n rfl) rfl rfl fR) rfl rfl ?_))))))))
      refine o_keep (kp [0,59] rfl) (r_cond _ rfl (fun h8=>?_) (fun h8=>?_))
      ·simp at h8
      ·skip
       refine r_skip ?_
       refine r_fallc hF rfl ?_
       ·rw[hln];apply eI;repeat constructor
def linesF (l:List (List UInt8)):Int×Int:=if 150<l.length then (3,-1) else match l.findIdx? (fun s=>s.contains 10) with
  | some i=>(12,(i:Int))
  | none=>(0,0)
theorem linesF_many{l:List (List UInt8)}(h:150<l.length):linesF l=(3,-1):=if_pos h
theorem linesF_at{l:List (List UInt8)}(h:¬ 150<l.length){i:Nat}{s:List UInt8}(hs:l[i]?=some s)(hc:s.contains 10=true)(hp:∀ (j:Nat) y,j<i→l[j]?=some y→y.contains 10=false):linesF l=(12,(i:Int)):=by
  have hi:=(List.getElem?_eq_some_iff.1 hs)
  have:l.findIdx? (fun s=>s.contains 10)=some i:=List.findIdx?_eq_some_iff_getElem.2 ⟨hi.1,by rw[hi.2];exact hc,fun j hj=>by
    have hjl:j<l.length:=Nat.lt_trans hj hi.1
    have:=hp j (l[j]'hjl) hj (List.getElem?_eq_getElem hjl)
    simpa using this⟩
  unfold linesF;rw[if_neg h,this]
theorem linesF_ok{l:List (List UInt8)}(h:¬ 150<l.length)(hp:∀ (j:Nat) y,j<l.length→l[j]?=some y→y.contains 10=false):linesF l=(0,0):=by
  have:l.findIdx? (fun s=>s.contains 10)=none:=List.findIdx?_eq_none_iff.2 fun x hx=>by
    obtain⟨j,hj,e⟩:=List.mem_iff_getElem.1 hx
    exact hp j x hj (by rw[← e];exact List.getElem?_eq_getElem hj)
  unfold linesF;rw[if_neg h,this]
def doS (t:TownS)(l:List (List UInt8)):TownS×List UInt8:=if (linesF l).1=0 then linesT t l else (t,[])
theorem DInv.doS{t:TownS}(h:DInv t)(l:List (List UInt8)):DInv (Go.Proofs.YtmakdilmibjpbaaGreatDoor.doS t l).1:=by
  unfold Go.Proofs.YtmakdilmibjpbaaGreatDoor.doS;split
  · exact h.lines
  · exact h
theorem nl_step{l:List (List UInt8)}{i:Nat}{s:List UInt8}(h:∀ (j:Nat) y,j<i→l[j]?=some y→y.contains 10=false)(hs:l[i]?=some s)(hc:s.contains 10=false):∀ (j:Nat) y,j<i+1→l[j]?=some y→y.contains 10=false:=fun j y hj hy=>by
  rcases Nat.lt_succ_iff_lt_or_eq.1 hj with h1|rfl
  · exact h j y h1 hy
  · rw[hs] at hy;cases hy;exact hc
theorem desk_Do (M:Amb)(L:LibOk M)(b tb:Nat)(t:TownS)(hD:DInv t)(v:Value)(l:List (List UInt8))(hv:Rd M [] v 1 (l.map rS))(hb:l.length≤100000)(hs:∀ s∈l,s.length≤20000):FnC Tryz.prog M 8 [ptr b,v] (.tuple #[str (doS t l).2,.agg #[.int .i64 (linesF l).1,.int .i64 (linesF l).2]]) [bdI b tb,townP tb t] [bdI b tb,townP tb (doS t l).1]:=by
 refine fnc_intro Tryz.func8 rfl Tryz.ntmps8 rfl fun R F hF=>?_
 refine r_cat ?_
 refine r_sr (p_as rfl rfl (p_alloc zr_31 rfl fun b5=>?_))
 refine o_keep (kp [0,1,4,5] rfl) (r_seq (r_sr (p_mv rfl rfl (l_op (x_p (pv_lens (Rd.len hv) ⟨_,Tryz.underlying22⟩ (.n rfl) rfl rfl rfl rfl fR) rfl rfl (p_gtr rfl rfl rfl (o_keep (kp [0,1,4,5,12] rfl) (r_cond _ rfl (fun h1=>?_) (fun h1=>?_)))))))))
 ·skip
  have hlf:=linesF_many (l:=l) (by have:=of_decide_eq_true h1;omega)
  refine r_sr ?_
  refine p_build zr_31 pl_31 (.c rfl fR rfl rfl rfl (by repeat constructor) (.c rfl fR rfl rfl rfl (by repeat constructor) .n)) rfl ?_
  refine p_as rfl rfl ?_
  refine p_store (.ofA ta_31) rfl rfl rfl (by first|rfl|exact rfl) (by first|rfl|exact rfl) (Ins.whole (by simp[*])) ?_
  refine o_keep (.c 0 rfl (.c 1 rfl (.c 4 rfl (.c 5 rfl .n)))) ?_
  refine r_retv hF rfl (.c (.t rfl) (.c (.a rfl ta_31 (.blk (SelB.ent) (Tk.all rfl)) rfl) .n)) ?_ ?_
  ·rw[show doS t l=(t,[]) by unfold doS;rw[hlf];rfl];apply eI;repeat constructor
  ·rw[show doS t l=(t,[]) by unfold doS;rw[hlf];rfl,hlf];rfl
 ·skip
  have hmn:¬ 150<l.length:=by have:=of_decide_eq_false h1;omega
  refine r_skip (r_seq (r_sr (p_mv rfl rfl (l_op (x_p (pv_lens (Rd.len hv) ⟨_,Tryz.underlying22⟩ (.n rfl) rfl rfl rfl rfl fR) rfl rfl (p_mv rfl rfl (o_keep (kp [0,1,4,5,14,15,16] rfl) (r_block ?_))))))))
  refine r_loop_1 (fun (i:Nat)=>[(16,true,.int .i64 (i:Int))]) (kp [0,1,4,5,14,15] rfl) (fun (i:Nat)=>bdI b tb::townP tb t::blk b5 [.int .i64 0,.int .i64 0] 31::R) (fun (i:Nat)=>i≤l.length∧∀ (j:Nat) y,j<i→l[j]?=some y→y.contains 10=false) (fun (i:Nat)=>l.length - i) (0) ?_ (kp [16] rfl) ?_ (fun i hI=>?_)
  ·exact⟨Nat.zero_le _,fun j y hj=>by omega⟩
  ·apply eI;repeat constructor
  ·skip
   obtain⟨hi0,hN⟩:=hI
   refine r_sr (p_lss rfl rfl rfl (o_keep (kp [0,1,4,5,14,15,16,17] rfl) (r_seq (r_cond _ rfl (fun h2=>?_) (fun h2=>?_)))))
   ·skip
    obtain⟨z,hz⟩:=getlt (l:=l) (i:=i) (by have:=of_decide_eq_true h2;omega)
    have hil:=(List.getElem?_eq_some_iff.1 hz).1
    refine r_skip (r_seq (r_block (r_sr (p_mv rfl rfl (p_idx Tryz.underlying22 (.ofC tc_9) hv rfl (mapget hz) rfl rfl rfl (p_ldat 0 tc_9 (Rd.ent hv (eJ (by repeat constructor))) (mapget hz) rfl rfl rfl rfl ?_))))))
    refine p_as rfl rfl (p_as rfl rfl (o_keep (kp [0,1,4,5,6,7,14,15,16] rfl) (r_sr (p_mv rfl rfl ?_))))
    refine p_callv cf_13 (.c rfl (.c rfl .n)) rfl (lib_Contains _ z 10) ?_
    refine o_keep (kp [0,1,4,5,6,14,15,16,22] rfl) (r_cond _ rfl (fun h3=>?_) (fun h3=>?_))
    ·skip
     have hlf:=linesF_at hmn hz h3 hN
     refine r_sr (p_mv rfl rfl ?_)
     refine p_build zr_31 pl_31 (.c rfl fR rfl rfl rfl (by repeat constructor) (.c rfl fR rfl rfl rfl (by repeat constructor) .n)) rfl ?_
     refine p_as rfl rfl ?_
     refine p_store (.ofA ta_31) rfl rfl rfl (by first|rfl|exact rfl) (by first|rfl|exact rfl) (Ins.whole (by simp[*])) ?_
     refine o_keep (.c 0 rfl (.c 1 rfl (.c 4 rfl (.c 5 rfl (.c 14 rfl (.c 15 rfl (.c 16 rfl .n))))))) ?_
     refine r_retv hF rfl (.c (.t rfl) (.c (.a rfl ta_31 (.blk (SelB.ent) (Tk.all rfl)) rfl) .n)) ?_ ?_
     ·rw[show doS t l=(t,[]) by unfold doS;rw[hlf];rfl];apply eI;repeat constructor
     ·rw[show doS t l=(t,[]) by unfold doS;rw[hlf];rfl,hlf];rfl
    ·skip
     have hN2:=nl_step hN hz h3
     refine r_skip (r_end (r_region (p_add rfl rfl (by omega) rfl (p_mv rfl rfl (o_keep (kp [0,1,4,5,14,15,16] rfl) ?_)))))
     refine r_back_1 (i+1) ?_ ?_ (Keep.app (kp [16] rfl) (kp [0,1,4,5,14,15] rfl)) ?_
     ·exact⟨by omega,hN2⟩
     ·omega
     ·apply eI;repeat constructor
   ·skip
    have hil:l.length≤i:=by have:=of_decide_eq_false h2;omega
    have hlf:=linesF_ok hmn (fun j y hj=>hN j y (by omega))
    have hdo:doS t l=linesT t l:=by unfold doS;rw[hlf];rfl
    refine r_exit rfl (r_sr (p_mv rfl rfl (p_nil rfl rfl (p_fa fa_46_0 rfl rfl ?_))))
    refine p_callc cf_14 (.c rfl .n) rfl (bld_ResetC _ b tb) ?_
    refine o_keep (kp [0,1,4,5] rfl) (r_seq (r_sr (p_mv rfl rfl (l_op (x_p (pv_lens (Rd.len hv) ⟨_,Tryz.underlying22⟩ (.n rfl) rfl rfl rfl rfl fR) rfl rfl (p_mv rfl rfl (o_keep (kp [0,4,5,30,31,32] rfl) (r_block ?_))))))))
    refine r_loop_3 (fun (j:Nat) (u:List UInt8) (t1:TownS)=>[(32,true,.int .i64 (j:Int))]) (kp [0,4,5,30,31] rfl) (fun (j:Nat) (u:List UInt8) (t1:TownS)=>bdP b tb u::townP tb t1::blk b5 [.int .i64 0,.int .i64 0] 31::R) (fun (j:Nat) (u:List UInt8) (t1:TownS)=>j≤l.length∧linesT t (l.take j)=(t1,u)) (fun (j:Nat) (u:List UInt8) (t1:TownS)=>l.length - j) (0) ([]) (t) ?_ (kp [32] rfl) ?_ (fun j u t1 hI=>?_)
    ·exact⟨Nat.zero_le _,rfl⟩
    ·apply eI;repeat constructor
    ·skip
     obtain⟨hj0,hE⟩:=hI
     have hD1:DInv t1:=by have:=DInv.lines (l:=l.take j) hD;rw[hE] at this;exact this
     have hul:u.length≤10000*j:=by have:=linesT_len (l.take j) hD;rw[hE,List.length_take] at this;exact Nat.le_trans this (by omega)
     refine r_sr (p_lss rfl rfl rfl (o_keep (kp [0,4,5,30,31,32,33] rfl) (r_seq (r_cond _ rfl (fun h4=>?_) (fun h4=>?_)))))
     ·skip
      obtain⟨z,hz⟩:=getlt (l:=l) (i:=j) (by have:=of_decide_eq_true h4;omega)
      have hjl:=(List.getElem?_eq_some_iff.1 hz).1
      have htk:=linesT_take hz t
      rw[hE] at htk
      refine r_skip (r_seq (r_block (r_sr (p_idx Tryz.underlying22 (.ofC tc_9) hv rfl (mapget hz) rfl rfl rfl (p_ldat 0 tc_9 (Rd.ent hv (eJ (by repeat constructor))) (mapget hz) rfl rfl rfl rfl ?_)))))
      refine p_as rfl rfl (o_keep (kp [0,4,5,9,30,31,32] rfl) (r_region (p_mv rfl rfl (p_mv rfl rfl ?_))))
      refine p_callc cf_15 (.c rfl (.c rfl .n)) rfl (desk_line _ L b tb u t1 hD1 z (hs z (List.mem_of_getElem? hz)) (by omega)) ?_
      refine o_keep (kp [0,4,5,30,31,32] rfl) (r_end (r_region (p_add rfl rfl (by omega) rfl (p_mv rfl rfl (o_keep (kp [0,4,5,30,31,32] rfl) ?_)))))
      refine r_back_3 (j+1) (u++(lineT t1 z).2) ((lineT t1 z).1) ?_ ?_ (Keep.app (kp [32] rfl) (kp [0,4,5,30,31] rfl)) ?_
      ·exact⟨by omega,htk⟩
      ·omega
      ·apply eI;repeat constructor
     ·skip
      have hjl:l.length≤j:=by have:=of_decide_eq_false h4;omega
      rw[List.take_of_length_le hjl] at hE
      rw[hE] at hdo
      refine r_exit rfl (r_sr (p_mv rfl rfl (p_nil rfl rfl (p_fa fa_46_0 rfl rfl ?_))))
      refine p_callc cf_16 (.c rfl .n) rfl (bld_StringC _ b tb u (by omega)) ?_
      refine p_build zr_31 pl_31 (.n) rfl ?_
      refine p_as rfl rfl ?_
      refine p_store (.ofA ta_31) rfl rfl rfl rfl rfl (Ins.whole rfl) ?_
      refine o_keep (kp [4,5] rfl) ?_
      refine r_retv hF rfl (.c (.t rfl) (.c (.a rfl ta_31 (.blk (SelB.ent) (Tk.all rfl)) rfl) .n)) ?_ ?_
      ·rw[hdo];apply eI;repeat constructor
      ·rw[hdo,hlf];rfl
theorem desk_DoS (M:Amb)(L:LibOk M)(b tb:Nat)(t:TownS)(hD:DInv t)(v:Value)(l:List (List UInt8))(hb:l.length≤100000)(hs:∀ s∈l,s.length≤20000):FnC Tryz.prog M 8 [ptr b,v] (.tuple #[str (doS t l).2,.agg #[.int .i64 (linesF l).1,.int .i64 (linesF l).2]]) [bdI b tb,townP tb t,sl v 9 1 (l.map rS)] [bdI b tb,townP tb (doS t l).1,sl v 9 1 (l.map rS)]:=by
 refine fnc_intro Tryz.func8 rfl Tryz.ntmps8 rfl fun R F hF=>?_
 refine r_cat ?_
 refine r_rd v fun hv=>?_
 refine r_sr (p_as rfl rfl (p_alloc zr_31 rfl fun b5=>?_))
 refine o_keep (kp [0,1,4,5] rfl) (r_seq (r_sr (p_mv rfl rfl (l_op (x_p (pv_lens (Rd.len hv) ⟨_,Tryz.underlying22⟩ (.n rfl) rfl rfl rfl rfl fR) rfl rfl (p_gtr rfl rfl rfl (o_keep (kp [0,1,4,5,12] rfl) (r_cond _ rfl (fun h1=>?_) (fun h1=>?_)))))))))
 ·skip
  have hlf:=linesF_many (l:=l) (by have:=of_decide_eq_true h1;omega)
  refine r_sr ?_
  refine p_build zr_31 pl_31 (.c rfl fR rfl rfl rfl (by repeat constructor) (.c rfl fR rfl rfl rfl (by repeat constructor) .n)) rfl ?_
  refine p_as rfl rfl ?_
  refine p_store (.ofA ta_31) rfl rfl rfl (by first|rfl|exact rfl) (by first|rfl|exact rfl) (Ins.whole (by simp[*])) ?_
  refine o_keep (.c 0 rfl (.c 1 rfl (.c 4 rfl (.c 5 rfl .n)))) ?_
  refine r_retv hF rfl (.c (.t rfl) (.c (.a rfl ta_31 (.blk (SelB.ent) (Tk.all rfl)) rfl) .n)) ?_ ?_
  ·rw[show doS t l=(t,[]) by unfold doS;rw[hlf];rfl];apply eI;repeat constructor
  ·rw[show doS t l=(t,[]) by unfold doS;rw[hlf];rfl,hlf];rfl
 ·skip
  have hmn:¬ 150<l.length:=by have:=of_decide_eq_false h1;omega
  refine r_skip (r_seq (r_sr (p_mv rfl rfl (l_op (x_p (pv_lens (Rd.len hv) ⟨_,Tryz.underlying22⟩ (.n rfl) rfl rfl rfl rfl fR) rfl rfl (p_mv rfl rfl (o_keep (kp [0,1,4,5,14,15,16] rfl) (r_block ?_))))))))
  refine r_loop_1 (fun (i:Nat)=>[(16,true,.int .i64 (i:Int))]) (kp [0,1,4,5,14,15] rfl) (fun (i:Nat)=>bdI b tb::townP tb t::sl v 9 1 (l.map rS)::blk b5 [.int .i64 0,.int .i64 0] 31::R) (fun (i:Nat)=>i≤l.length∧∀ (j:Nat) y,j<i→l[j]?=some y→y.contains 10=false) (fun (i:Nat)=>l.length - i) (0) ?_ (kp [16] rfl) ?_ (fun i hI=>?_)
  ·exact⟨Nat.zero_le _,fun j y hj=>by omega⟩
  ·apply eI;repeat constructor
  ·skip
   obtain⟨hi0,hN⟩:=hI
   refine r_sr (p_lss rfl rfl rfl (o_keep (kp [0,1,4,5,14,15,16,17] rfl) (r_seq (r_cond _ rfl (fun h2=>?_) (fun h2=>?_)))))
   ·skip
    obtain⟨z,hz⟩:=getlt (l:=l) (i:=i) (by have:=of_decide_eq_true h2;omega)
    have hil:=(List.getElem?_eq_some_iff.1 hz).1
    refine r_skip (r_seq (r_block (r_sr (p_mv rfl rfl (p_idx Tryz.underlying22 (.ofC tc_9) hv rfl (mapget hz) rfl rfl rfl (p_ldat 0 tc_9 (Rd.ent hv (eJ (by repeat constructor))) (mapget hz) rfl rfl rfl rfl ?_))))))
    refine p_as rfl rfl (p_as rfl rfl (o_keep (kp [0,1,4,5,6,7,14,15,16] rfl) (r_sr (p_mv rfl rfl ?_))))
    refine p_callv cf_13 (.c rfl (.c rfl .n)) rfl (lib_Contains _ z 10) ?_
    refine o_keep (kp [0,1,4,5,6,14,15,16,22] rfl) (r_cond _ rfl (fun h3=>?_) (fun h3=>?_))
    ·skip
     have hlf:=linesF_at hmn hz h3 hN
     refine r_sr (p_mv rfl rfl ?_)
     refine p_build zr_31 pl_31 (.c rfl fR rfl rfl rfl (by repeat constructor) (.c rfl fR rfl rfl rfl (by repeat constructor) .n)) rfl ?_
     refine p_as rfl rfl ?_
     refine p_store (.ofA ta_31) rfl rfl rfl (by first|rfl|exact rfl) (by first|rfl|exact rfl) (Ins.whole (by simp[*])) ?_
     refine o_keep (.c 0 rfl (.c 1 rfl (.c 4 rfl (.c 5 rfl (.c 14 rfl (.c 15 rfl (.c 16 rfl .n))))))) ?_
     refine r_retv hF rfl (.c (.t rfl) (.c (.a rfl ta_31 (.blk (SelB.ent) (Tk.all rfl)) rfl) .n)) ?_ ?_
     ·rw[show doS t l=(t,[]) by unfold doS;rw[hlf];rfl];apply eI;repeat constructor
     ·rw[show doS t l=(t,[]) by unfold doS;rw[hlf];rfl,hlf];rfl
    ·skip
     have hN2:=nl_step hN hz h3
     refine r_skip (r_end (r_region (p_add rfl rfl (by omega) rfl (p_mv rfl rfl (o_keep (kp [0,1,4,5,14,15,16] rfl) ?_)))))
     refine r_back_1 (i+1) ?_ ?_ (Keep.app (kp [16] rfl) (kp [0,1,4,5,14,15] rfl)) ?_
     ·exact⟨by omega,hN2⟩
     ·omega
     ·apply eI;repeat constructor
   ·skip
    have hil:l.length≤i:=by have:=of_decide_eq_false h2;omega
    have hlf:=linesF_ok hmn (fun j y hj=>hN j y (by omega))
    have hdo:doS t l=linesT t l:=by unfold doS;rw[hlf];rfl
    refine r_exit rfl (r_sr (p_mv rfl rfl (p_nil rfl rfl (p_fa fa_46_0 rfl rfl ?_))))
    refine p_callc cf_14 (.c rfl .n) rfl (bld_ResetC _ b tb) ?_
    refine o_keep (kp [0,1,4,5] rfl) (r_seq (r_sr (p_mv rfl rfl (l_op (x_p (pv_lens (Rd.len hv) ⟨_,Tryz.underlying22⟩ (.n rfl) rfl rfl rfl rfl fR) rfl rfl (p_mv rfl rfl (o_keep (kp [0,4,5,30,31,32] rfl) (r_block ?_))))))))
    refine r_loop_3 (fun (j:Nat) (u:List UInt8) (t1:TownS)=>[(32,true,.int .i64 (j:Int))]) (kp [0,4,5,30,31] rfl) (fun (j:Nat) (u:List UInt8) (t1:TownS)=>bdP b tb u::townP tb t1::sl v 9 1 (l.map rS)::blk b5 [.int .i64 0,.int .i64 0] 31::R) (fun (j:Nat) (u:List UInt8) (t1:TownS)=>j≤l.length∧linesT t (l.take j)=(t1,u)) (fun (j:Nat) (u:List UInt8) (t1:TownS)=>l.length - j) (0) ([]) (t) ?_ (kp [32] rfl) ?_ (fun j u t1 hI=>?_)
    ·exact⟨Nat.zero_le _,rfl⟩
    ·apply eI;repeat constructor
    ·skip
     obtain⟨hj0,hE⟩:=hI
     have hD1:DInv t1:=by have:=DInv.lines (l:=l.take j) hD;rw[hE] at this;exact this
     have hul:u.length≤10000*j:=by have:=linesT_len (l.take j) hD;rw[hE,List.length_take] at this;exact Nat.le_trans this (by omega)
     refine r_sr (p_lss rfl rfl rfl (o_keep (kp [0,4,5,30,31,32,33] rfl) (r_seq (r_cond _ rfl (fun h4=>?_) (fun h4=>?_)))))
     ·skip
      obtain⟨z,hz⟩:=getlt (l:=l) (i:=j) (by have:=of_decide_eq_true h4;omega)
      have hjl:=(List.getElem?_eq_some_iff.1 hz).1
      have htk:=linesT_take hz t
      rw[hE] at htk
      refine r_skip (r_seq (r_block (r_sr (p_idx Tryz.underlying22 (.ofC tc_9) hv rfl (mapget hz) rfl rfl rfl (p_ldat 0 tc_9 (Rd.ent hv (eJ (by repeat constructor))) (mapget hz) rfl rfl rfl rfl ?_)))))
      refine p_as rfl rfl (o_keep (kp [0,4,5,9,30,31,32] rfl) (r_region (p_mv rfl rfl (p_mv rfl rfl ?_))))
      refine p_callc cf_15 (.c rfl (.c rfl .n)) rfl (desk_line _ L b tb u t1 hD1 z (hs z (List.mem_of_getElem? hz)) (by omega)) ?_
      refine o_keep (kp [0,4,5,30,31,32] rfl) (r_end (r_region (p_add rfl rfl (by omega) rfl (p_mv rfl rfl (o_keep (kp [0,4,5,30,31,32] rfl) ?_)))))
      refine r_back_3 (j+1) (u++(lineT t1 z).2) ((lineT t1 z).1) ?_ ?_ (Keep.app (kp [32] rfl) (kp [0,4,5,30,31] rfl)) ?_
      ·exact⟨by omega,htk⟩
      ·omega
      ·apply eI;repeat constructor
     ·skip
      have hjl:l.length≤j:=by have:=of_decide_eq_false h4;omega
      rw[List.take_of_length_le hjl] at hE
      rw[hE] at hdo
      refine r_exit rfl (r_sr (p_mv rfl rfl (p_nil rfl rfl (p_fa fa_46_0 rfl rfl ?_))))
      refine p_callc cf_16 (.c rfl .n) rfl (bld_StringC _ b tb u (by omega)) ?_
      refine p_build zr_31 pl_31 (.n) rfl ?_
      refine p_as rfl rfl ?_
      refine p_store (.ofA ta_31) rfl rfl rfl rfl rfl (Ins.whole rfl) ?_
      refine o_keep (kp [4,5] rfl) ?_
      refine r_retv hF rfl (.c (.t rfl) (.c (.a rfl ta_31 (.blk (SelB.ent) (Tk.all rfl)) rfl) .n)) ?_ ?_
      ·rw[hdo];apply eI;repeat constructor
      ·rw[hdo,hlf];rfl
end Go.Proofs.YtmakdilmibjpbaaGreatDoor
namespace Go.Proofs.YtmakdilmibjpbaaGreatDoor
open Go Go.RowKit
set_option linter.unusedVariables false
set_option linter.unusedSimpArgs false
set_option maxRecDepth 20000
def slowA:Nat→List (List UInt8)→Bool
  | _,[]=>false
  | n,s::l=>if 9000<n+s.length then true else slowA (n+s.length) l
def slowL (l:List (List UInt8)):Bool:=slowA 0 l
theorem slowA_no:∀ {l:List (List UInt8)} {n:Nat},slowA n l=false→∀ s∈l,s.length≤20000
  | [],_,_,s,hs=>by cases hs
  | x::l,n,h,s,hs=>by
    unfold slowA at h
    split at h
    · cases h
    · rcases List.mem_cons.1 hs with rfl|hs
      · omega
      · exact slowA_no h s hs
theorem begun_f:linesF begL=(0,0):=by decide +kernel
theorem begun_do:(doS tn0 begL).2=begS:=by
  have:doS tn0 begL=linesT tn0 begL:=by unfold doS;rw[begun_f];rfl
  rw[this];exact begun
theorem law_slow (M:Amb)(H:List HP)(v:Value)(l:List (List UInt8))(hv:Rd M H v 1 (l.map rS))(hb:l.length≤100000)(hs:∀ s∈l,s.length≤140737488355328):FnV Tryz.prog M H 5 [v] (.bool (slowL l)):=by
 refine fn_intro Tryz.func5 rfl Tryz.ntmps5 rfl fun F hF=>?_
 refine r_sr (p_as rfl rfl (o_keep (kp [0,2] rfl) (r_sr (p_as rfl rfl (o_keep (kp [0,2,3] rfl) (r_seq (r_sr ?_)))))))
 refine p_as rfl rfl (o_keep (kp [0,2,3,4] rfl) (r_block ?_))
 refine r_loop_2 (fun (i n:Nat)=>[(4,true,.int .i64 (i:Int)),(3,true,.int .i64 (n:Int))]) (kp [0,2] rfl) (fun (i n:Nat)=>H) (fun (i n:Nat)=>i≤l.length∧n≤9000∧slowL l=slowA n (l.drop i)) (fun (i n:Nat)=>l.length - i) (0) (0) ?_ (kp [4,3] rfl) ?_ (fun i n hI=>?_)
 ·exact⟨Nat.zero_le _,by omega,rfl⟩
 ·apply eI;repeat constructor
 ·skip
  obtain⟨hi0,hn0,hE⟩:=hI
  refine r_seq (r_sr (p_mv rfl rfl (p_mv rfl rfl (l_op (x_p (pv_lens (Rd.len hv) ⟨_,Tryz.underlying22⟩ (.n rfl) rfl rfl rfl rfl fR) rfl rfl (p_lss rfl rfl rfl (o_keep (kp [0,2,3,4,8] rfl) (r_cond _ rfl (fun h1=>?_) (fun h1=>?_)))))))))
  ·skip
   obtain⟨z,hz⟩:=getlt (l:=l) (i:=i) (by have:=of_decide_eq_true h1;omega)
   have hil:=(List.getElem?_eq_some_iff.1 hz).1
   have hzl:=hs z (List.mem_of_getElem? hz)
   rw[drop_at hz] at hE
   unfold slowA at hE
   refine r_skip (r_seq (r_block (r_sr (p_mv rfl rfl (p_mv rfl rfl (p_mv rfl rfl (p_idx Tryz.underlying22 (.ofC tc_9) hv rfl (mapget hz) rfl rfl rfl ?_)))))))
   refine p_ldat 0 tc_9 (Rd.ent hv (eJ (by repeat constructor))) (mapget hz) rfl rfl rfl rfl ?_
   refine l_op (x_p (pv_slen Tryz.underlying9 (.n rfl) rfl rfl rfl rfl fR) rfl rfl (p_add rfl rfl (by omega) rfl (p_as rfl rfl (o_keep (kp [0,2,3,4] rfl) (r_sr (p_mv rfl rfl (p_gtr rfl rfl rfl (o_keep (kp [0,2,3,4,19] rfl) ?_))))))))
   refine r_cond _ rfl (fun h2=>?_) (fun h2=>?_)
   ·skip
    rw[if_pos (by have:=of_decide_eq_true h2;omega)] at hE
    refine r_sr (p_as rfl rfl (o_keep (kp [0,2,3,4] rfl) ?_))
    refine r_retv hF rfl (.c (.t rfl) .n) ?_ ?_
    ·apply eI;repeat constructor
    ·rw[hE];rfl
   ·skip
    have hn9:¬ 9000<n+z.length:=by have:=of_decide_eq_false h2;omega
    rw[if_neg hn9] at hE
    refine r_skip (r_end (r_region (p_mv rfl rfl (p_add rfl rfl (by omega) rfl (p_as rfl rfl (o_keep (kp [0,2,3,4] rfl) ?_))))))
    refine r_back_2 (i+1) (n+z.length) ?_ ?_ (Keep.app (kp [4,3] rfl) (kp [0,2] rfl)) ?_
    ·exact⟨by omega,by omega,hE⟩
    ·omega
    ·apply eI;repeat constructor
  ·skip
   have hil:l.length≤i:=by have:=of_decide_eq_false h1;omega
   rw[List.drop_eq_nil_of_le hil] at hE
   refine r_exit rfl (r_sr (p_as rfl rfl (o_keep (kp [2] rfl) ?_)))
   refine r_retv hF rfl (.c (.t rfl) .n) ?_ ?_
   ·apply eI;repeat constructor
   ·rw[hE];rfl
theorem law_begun (M:Amb)(H:List HP)(L:LibOk M):FnV Tryz.prog M H 4 [] (.bool true):=by
 refine fn_intro Tryz.func4 rfl Tryz.ntmps4 rfl fun F hF=>?_
 refine r_sr (p_as rfl rfl (o_keep (kp [0] rfl) (r_sr ?_)))
 refine p_calle cf_6 (.n) rfl (desk_New _) fun dx=>?_
 refine o_cat ?_
 refine p_bsl Tryz.underlying22 (.ofC tc_9) zr_9 (.c rfl rfl rfl (.c rfl rfl rfl (.c rfl rfl rfl (.c rfl rfl rfl (.c rfl rfl rfl (.c rfl rfl rfl (.c rfl rfl rfl (.c rfl rfl rfl (.c rfl rfl rfl (.c rfl rfl rfl (.c rfl rfl rfl .n))))))))))) (rows:=begL.map rS) rfl rfl rfl rfl fun b5 hr5=>?_
 refine p_callc cf_8 (.c rfl (.c rfl .n)) rfl (desk_DoS _ L dx.1 dx.2 tn0 tn0_inv _ begL (by decide) (by decide)) ?_
 rw[begun_do,begun_f]
 refine p_mv rfl rfl (p_ext rfl rfl rfl (p_ext rfl rfl rfl (p_alloc zr_31 rfl fun b2=>?_)))
 refine p_as rfl rfl ?_
 refine p_store (.ofA ta_31) rfl rfl rfl rfl rfl (Ins.whole rfl) ?_
 refine o_keep (kp [0,1,2] rfl) (r_sr (p_fa fa_31_0 rfl rfl (p_ldc tc_3 rfl (by rfl) rfl ?_)))
 refine p_eql rfl rfl rfl (p_mv rfl rfl (l_op (x_p (pv_mv (.s rfl rfl rfl) rfl rfl gA) rfl rfl ?_)))
 refine l_op (x_p (pv_seq (.s rfl rfl rfl) rfl rfl rfl gB) rfl rfl ?_)
 refine l_op (x_p (pv_and (.n rfl) rfl rfl rfl (fun _=>⟨rfl,fun hc=>by first|rfl|(rw[hc];rfl)|simp_all⟩)) rfl rfl ?_)
 refine p_as rfl rfl (o_keep (kp [0] rfl) ?_)
 refine r_retv hF rfl (.c (.t rfl) .n) ?_ ?_
 ·apply eI;repeat constructor
 ·exact bool_eq (by decide +kernel)
end Go.Proofs.YtmakdilmibjpbaaGreatDoor
