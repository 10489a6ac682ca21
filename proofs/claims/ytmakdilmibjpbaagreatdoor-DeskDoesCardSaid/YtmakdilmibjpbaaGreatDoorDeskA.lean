/- The walks of DeskA: written by a program of ours (gen.py) over the engine. -/
import Derived.Test.YtmakdilmibjpbaaGreatDoorWants
import Derived.Test.YtmakdilmibjpbaaGreatDoorFacts
import Derived.Test.YtmakdilmibjpbaaGreatDoorLib
import Derived.Test.YtmakdilmibjpbaaGreatDoorBld
import Derived.Test.YtmakdilmibjpbaaGreatDoorElt
import Derived.Test.YtmakdilmibjpbaaGreatDoorKeepW2
namespace Go.Proofs.YtmakdilmibjpbaaGreatDoor
open Go Go.RowKit
set_option linter.unusedVariables false
set_option linter.unusedSimpArgs false
set_option maxRecDepth 20000
theorem str_Index (M:Amb)(H:List HP)(v:Value)(l:List (List UInt8))(a:List UInt8)(hv:Rd M H v 1 (l.map rS))(hb:l.length≤100000):FnV Tryz.prog M H 55 [v,str a] (.int .i64 (idxI l fun x=>decide (x=a))):=by
 refine fn_intro Tryz.func55 rfl Tryz.ntmps55 rfl fun F hF=>?_
 refine r_sr (p_as rfl rfl (o_keep (kp [0,1,4] rfl) (r_seq (r_sr (p_mv rfl rfl (l_op (x_p (pv_lens hv.len ⟨_,Tryz.underlying22⟩ (.n rfl) rfl rfl rfl rfl fR) rfl rfl (p_mv rfl rfl ?_))))))))
 refine o_keep (kp [0,1,4,7,8] rfl) (r_block ?_)
 refine r_loop_1 (fun (i:Nat)=>[(8,true,.int .i64 (i:Int))]) (kp [0,1,4,7] rfl) (fun (i:Nat)=>H) (fun (i:Nat)=>i≤l.length∧∀ (j:Nat) x,j<i→l[j]?=some x→decide (x=a)=false) (fun (i:Nat)=>l.length - i) (0) ?_ (kp [8] rfl) ?_ (fun i hI=>?_)
 ·exact⟨Nat.zero_le _,fun j x hj=>by omega⟩
 ·apply eI;repeat constructor
 ·skip
  obtain⟨_,hI⟩:=hI
  refine r_sr (p_lss rfl rfl rfl (o_keep (kp [0,1,4,7,8,9] rfl) (r_seq (r_cond _ rfl (fun h1=>?_) (fun h1=>?_)))))
  ·skip
   obtain⟨x,hx⟩:=getlt (l:=l) (i:=i) (by have:=of_decide_eq_true h1;omega)
   have hil:=(List.getElem?_eq_some_iff.1 hx).1
   refine r_skip (r_seq (r_block (r_sr (p_mv rfl rfl (p_as rfl rfl (o_keep (kp [0,1,4,5,7,8] rfl) (r_sr ?_)))))))
   refine p_mv rfl rfl (p_mv rfl rfl (p_mv rfl rfl (p_idx Tryz.underlying22 (.ofC tc_9) hv rfl (mapget hx) rfl rfl rfl (p_ldat 0 tc_9 (Rd.ent hv (eJ (by repeat constructor))) (mapget hx) rfl rfl rfl rfl ?_))))
   refine l_op (x_p (pv_seq (.n rfl) rfl rfl rfl fS) rfl rfl (o_keep (kp [0,1,4,5,7,8,16] rfl) (r_cond _ rfl (fun h2=>?_) (fun h2=>?_))))
   ·skip
    have hpt:a=x:=by simpa using h2
    refine r_sr (p_mv rfl rfl (p_as rfl rfl (o_keep (kp [0,1,4,7,8] rfl) ?_)))
    refine r_retv hF rfl (.c (.t rfl) .n) ?_ ?_
    ·apply eI;repeat constructor
    ·exact int_eq (idxI_hit hx (by simpa using hpt.symm) hI).symm
   ·skip
    have hpf:¬ a=x:=by simpa using h2
    refine r_skip (r_end (r_region (p_add rfl rfl (by omega) rfl (p_mv rfl rfl (o_keep (kp [0,1,4,7,8] rfl) ?_)))))
    refine r_back_1 (i+1) ?_ ?_ (Keep.app (kp [8] rfl) (kp [0,1,4,7] rfl)) ?_
    ·exact⟨by omega,idx_step hI hx (by simpa using fun e=>hpf e.symm)⟩
    ·omega
    ·apply eI;repeat constructor
  ·skip
   have hil:l.length≤i:=by have:=of_decide_eq_false h1;omega
   refine r_exit rfl (r_sr (p_as rfl rfl (o_keep (kp [4] rfl) ?_)))
   refine r_retv hF rfl (.c (.t rfl) .n) ?_ ?_
   ·apply eI;repeat constructor
   ·exact int_eq (idxI_miss fun j x hj=>hI j x (by omega)).symm
theorem str_IndexFunc (M:Amb)(H:List HP)(v:Value)(l:List (List UInt8))(hv:Rd M H v 1 (l.map rS))(hb:l.length≤200000)(g:Nat)(caps:List Value)(p:List UInt8→Bool)(hc:cfB Tryz.prog g=true)(hp:∀ o∈l,FnV Tryz.prog M H g (str o::caps) (.bool (p o))):FnV Tryz.prog M H 48 [v,fnV g caps] (.int .i64 (idxI l p)):=by
 refine fn_intro Tryz.func48 rfl Tryz.ntmps48 rfl fun F hF=>?_
 refine r_sr (p_as rfl rfl (o_keep (kp [0,1,4] rfl) (r_seq (r_sr (p_mv rfl rfl (l_op (x_p (pv_lens hv.len ⟨_,Tryz.underlying22⟩ (.n rfl) rfl rfl rfl rfl fR) rfl rfl (p_mv rfl rfl ?_))))))))
 refine o_keep (kp [0,1,4,7,8] rfl) (r_block ?_)
 refine r_loop_1 (fun (i:Nat)=>[(8,true,.int .i64 (i:Int))]) (kp [0,1,4,7] rfl) (fun (i:Nat)=>H) (fun (i:Nat)=>i≤l.length∧∀ (j:Nat) x,j<i→l[j]?=some x→p x=false) (fun (i:Nat)=>l.length - i) (0) ?_ (kp [8] rfl) ?_ (fun i hI=>?_)
 ·exact⟨Nat.zero_le _,fun j x hj=>by omega⟩
 ·apply eI;repeat constructor
 ·skip
  obtain⟨_,hI⟩:=hI
  refine r_sr (p_lss rfl rfl rfl (o_keep (kp [0,1,4,7,8,9] rfl) (r_seq (r_cond _ rfl (fun h1=>?_) (fun h1=>?_)))))
  ·skip
   obtain⟨o,ho⟩:=getlt (l:=l) (i:=i) (by have:=of_decide_eq_true h1;omega)
   have hil:=(List.getElem?_eq_some_iff.1 ho).1
   refine r_skip (r_seq (r_block (r_sr (p_mv rfl rfl (p_as rfl rfl (o_keep (kp [0,1,4,5,7,8] rfl) (r_sr ?_)))))))
   refine p_mv rfl rfl (p_mv rfl rfl (p_mv rfl rfl (p_idx Tryz.underlying22 (.ofC tc_9) hv rfl (mapget ho) rfl rfl rfl (p_ldat 0 tc_9 (Rd.ent hv (eJ (by repeat constructor))) (mapget ho) rfl rfl rfl rfl ?_))))
   refine l_op (x_q (rq_callf hc (.n rfl) rfl rfl fR (.c rfl fR .n) (fun hg=>hp _ (List.mem_of_getElem? ho))) rfl rfl ?_)
   refine o_keep (kp [0,1,4,5,7,8,16] rfl) (r_cond _ rfl (fun h2=>?_) (fun h2=>?_))
   ·skip
    have hpt:=h2
    refine r_sr (p_mv rfl rfl (p_as rfl rfl (o_keep (kp [0,1,4,7,8] rfl) ?_)))
    refine r_retv hF rfl (.c (.t rfl) .n) ?_ ?_
    ·apply eI;repeat constructor
    ·exact int_eq (idxI_hit ho hpt hI).symm
   ·skip
    have hpf:=h2
    refine r_skip (r_end (r_region (p_add rfl rfl (by omega) rfl (p_mv rfl rfl (o_keep (kp [0,1,4,7,8] rfl) ?_)))))
    refine r_back_1 (i+1) ?_ ?_ (Keep.app (kp [8] rfl) (kp [0,1,4,7] rfl)) ?_
    ·exact⟨by omega,idx_step hI ho hpf⟩
    ·omega
    ·apply eI;repeat constructor
  ·skip
   have hil:l.length≤i:=by have:=of_decide_eq_false h1;omega
   refine r_exit rfl (r_sr (p_as rfl rfl (o_keep (kp [4] rfl) ?_)))
   refine r_retv hF rfl (.c (.t rfl) .n) ?_ ?_
   ·apply eI;repeat constructor
   ·exact int_eq (idxI_miss fun j x hj=>hI j x (by omega)).symm
theorem desk_line1 (M:Amb)(H:List HP)(s:List UInt8):FnV Tryz.prog M H 26 [str s] (.bool (decide (s=[]))):=by
 refine fn_intro Tryz.func26 rfl Tryz.ntmps26 rfl fun F hF=>?_
 refine r_sr (p_as rfl rfl (o_keep (kp [0,2] rfl) (r_sr (p_mv rfl rfl (l_op (x_p (pv_seq (.n rfl) rfl rfl rfl fS) rfl rfl (p_as rfl rfl (o_keep (kp [2] rfl) ?_))))))))
 refine r_retv hF rfl (.c (.t rfl) .n) ?_ ?_
 ·apply eI;repeat constructor
 ·rfl
theorem idxI_cases{α:Type}(l:List α)(p:α→Bool):(idxI l p=-1∧∀ x∈l,p x=false)∨∃ (i:Nat) (x:α),idxI l p=(i:Int)∧l[i]?=some x∧p x=true∧∀ (j:Nat) y,j<i→l[j]?=some y→p y=false:=by
  unfold idxI
  cases h:l.findIdx? p with
  | none=>exact .inl ⟨rfl,by simpa using h⟩
  | some i=>
    obtain⟨hi,h1,h2⟩:=List.findIdx?_eq_some_iff_getElem.1 h
    refine .inr ⟨i,l[i],rfl,List.getElem?_eq_getElem hi,h1,fun j y hj hy=>?_⟩
    obtain⟨hjl,rfl⟩:=List.getElem?_eq_some_iff.1 hy
    simpa using h2 j hj
theorem arr_less{H R:List HP}{b n sz cap:Nat}{E:TypeId}{rows:List (List Value)}[s:SelR H b E sz rows cap R]:Ent H (arr b E sz (rows.take n) cap::R):=Ent.tr s.ent (Ent.imp fun h hx=>by
  obtain⟨sp,h1,h2,h3,h4,h5⟩:=hx
  have e:rows.flatten++sp=(rows.take n).flatten++((rows.drop n).flatten++sp):=by
    rw[← List.append_assoc,← flat_app,List.take_append_drop]
  exact⟨(rows.drop n).flatten++sp,by rw[← e];exact h1,fun r hr=>h2 r (List.mem_of_mem_take hr),by simp;omega,h4,by rw[← e];exact h5⟩)
def neW (s:List UInt8):Bool:=!decide (s=[])
theorem wordsL_eq (s:List UInt8):wordsL s=(spl s).filter neW:=rfl
theorem filt_none{l:List (List UInt8)}(h:∀ x∈l,decide (x=[])=false):l.filter neW=l:=List.filter_eq_self.2 fun x hx=>by unfold neW;rw[h x hx];rfl
theorem filt_take{l:List (List UInt8)}{i:Nat}(h:∀ (j:Nat) y,j<i→l[j]?=some y→decide (y=[])=false):(l.take i).filter neW=l.take i:=List.filter_eq_self.2 fun x hx=>by
  obtain⟨j,hj,e⟩:=List.mem_iff_getElem.1 hx
  simp only[List.length_take] at hj
  have:=h j x (by omega) (by rw[← e,List.getElem_take];exact List.getElem?_eq_getElem (by omega))
  unfold neW;rw[this];rfl
theorem filt_next{l:List (List UInt8)}{j:Nat}{w:List UInt8}(h:l[j]?=some w):(l.take (j+1)).filter neW=(l.take j).filter neW++if neW w=true then [w] else []:=by
  rw[List.take_add_one,h]
  simp only[Option.toList_some,List.filter_append]
  congr 1
  by_cases hq:neW w=true<;>simp[hq]
theorem set_take{α:Type}{l:List α}{i:Nat}{x:α}(h:i<l.length):(l.set i x).take (i+1)=l.take i++[x]:=by
  rw[List.take_add_one,List.getElem?_set_self h,List.take_set_of_le (by omega)];rfl
theorem rS_map_set (l:List (List UInt8))(i:Nat)(w:List UInt8):(l.map rS).set i [str w]=(l.set i w).map rS:=by rw[List.map_set];rfl
theorem str_DeleteFunc (M:Amb)(v:Value)(l:List (List UInt8))(h0:0<l.length)(hb:l.length≤200000)(g:Nat)(hc:cfB Tryz.prog g=true)(hp:∀ (H:List HP) (s:List UInt8),FnV Tryz.prog M H g [str s] (.bool (decide (s=[])))):FnE (α:=Value) Tryz.prog M 24 [v,fnV g []] [sl v 9 1 (l.map rS)] (fun x=>x) (fun x=>[sl x 9 1 ((l.filter neW).map rS)]):=by
 refine fne_intro Tryz.func24 rfl Tryz.ntmps24 rfl fun R F hF=>?_
 refine r_cat ?_
 refine r_rd v fun hr=>?_
 refine r_sr (p_as rfl rfl (o_keep (kp [0,1,4] rfl) (r_seq ?_)))
 rcases idxI_cases l (fun s=>decide (s=[])) with ⟨hx,hn⟩|⟨i0,z,hx,hz,hz1,hz2⟩
 ·skip
  refine r_region (p_mv rfl rfl (p_mv rfl rfl ?_))
  refine p_callv cf_48 (.c rfl (.c rfl .n)) rfl (str_IndexFunc _ _ v l (Rd.ent hr (eJ (by repeat constructor))) hb g [] (fun s=>decide (s=[])) hc (fun o _=>hp _ o)) ?_
  refine p_as rfl rfl (o_keep (kp [0,1,4,5] rfl) (r_seq (r_sr (p_mv rfl rfl (p_eql rfl rfl rfl (o_keep (kp [0,1,4,5,12] rfl) (r_cond _ rfl (fun h1=>?_) (fun h1=>?_))))))))
  ·skip
   have hfn:=filt_none hn
   refine r_sr (p_mv rfl rfl (p_as rfl rfl (o_keep (kp [0,1,4,5] rfl) ?_)))
   refine r_rete (v) hF rfl (.c (.t rfl) .n) ?_ ?_
   ·rw[hfn];apply eI;repeat constructor
   ·rfl
  ·exfalso;have:=of_decide_eq_false h1;omega
 ·skip
  have hi0:=(List.getElem?_eq_some_iff.1 hz).1
  obtain rfl:z=[]:=by simpa using hz1
  refine r_region (p_mv rfl rfl (p_mv rfl rfl ?_))
  refine p_callv cf_48 (.c rfl (.c rfl .n)) rfl (str_IndexFunc _ _ v l (Rd.ent hr (eJ (by repeat constructor))) hb g [] (fun s=>decide (s=[])) hc (fun o _=>hp _ o)) ?_
  refine p_as rfl rfl (o_keep (kp [0,1,4,5] rfl) (r_seq (r_sr (p_mv rfl rfl (p_eql rfl rfl rfl (o_keep (kp [0,1,4,5,12] rfl) (r_cond _ rfl (fun h2=>?_) (fun h2=>?_))))))))
  ·exfalso;have:=of_decide_eq_true h2;omega
  ·skip
   refine r_skip (r_seq (r_seq ?_))
   rw[hx]
   refine r_region (p_mv rfl rfl (p_add rfl rfl (by omega) rfl (p_as rfl rfl (o_keep (kp [0,1,4,5,6] rfl) (r_block ?_)))))
   refine r_loop_3 (fun (i j:Nat) (ls:List (List UInt8))=>[(5,true,.int .i64 (i:Int)),(6,true,.int .i64 (j:Int))]) (kp [0,1,4] rfl) (fun (i j:Nat) (ls:List (List UInt8))=>sl v 9 1 (ls.map rS)::R) (fun (i j:Nat) (ls:List (List UInt8))=>(i<j∧j≤l.length)∧ls.length=l.length∧ls.take i=(l.take j).filter neW∧∀ k:Nat,j≤k→ls[k]?=l[k]?) (fun (i j:Nat) (ls:List (List UInt8))=>l.length - j) (i0) (i0+1) (l) ?_ (kp [5,6] rfl) ?_ (fun i j ls hI=>?_)
   ·exact⟨⟨by omega,by omega⟩,rfl,by rw[filt_next hz,filt_take hz2];simp[neW],fun k _=>rfl⟩
   ·apply eI;repeat constructor
   ·skip
    obtain⟨⟨hI1,hI1b⟩,hI2,hI3,hI4⟩:=hI
    refine r_rd v fun hrl=>?_
    refine r_seq (r_sr (p_mv rfl rfl (p_mv rfl rfl (l_op (x_p (pv_lens (Rd.len hrl) ⟨_,Tryz.underlying22⟩ (.n rfl) rfl rfl rfl rfl fR) rfl rfl (p_lss rfl rfl rfl (o_keep (kp [0,1,4,5,6,19] rfl) (r_cond _ rfl (fun h3=>?_) (fun h3=>?_)))))))))
    ·skip
     obtain⟨w,hw⟩:=getlt (l:=l) (i:=j) (by have:=of_decide_eq_true h3;omega)
     have hjl:=(List.getElem?_eq_some_iff.1 hw).1
     have hwl:ls[j]?=some w:=by rw[hI4 j (Nat.le_refl _)];exact hw
     obtain⟨y,hy⟩:=getlt (l:=ls) (i:=i) (by omega)
     have hfx:=filt_next hw
     refine r_skip (r_seq (r_block (r_sr (p_mv rfl rfl (p_mv rfl rfl (p_idx Tryz.underlying22 (.ofC tc_9) hrl rfl (mapget hwl) rfl rfl rfl (p_ldat 0 tc_9 (Rd.ent hrl (eJ (by repeat constructor))) (mapget hwl) rfl rfl rfl rfl ?_)))))))
     refine p_as rfl rfl (o_keep (kp [0,1,4,5,6,7] rfl) (r_sr (p_mv rfl rfl (p_mv rfl rfl ?_))))
     refine l_op (x_q (rq_callf hc (.n rfl) rfl rfl fR (.c rfl fR .n) (fun hg=>hp _ w)) rfl rfl ?_)
     refine p_not rfl rfl (o_keep (kp [0,1,4,5,6,7,29] rfl) (r_cond _ rfl (fun h4=>?_) (fun h4=>?_)))
     ·skip
      have hne:neW w=true:=by unfold neW;simpa using h4
      rw[if_pos hne] at hfx
      refine r_sr (p_mv rfl rfl (p_mv rfl rfl (p_mv rfl rfl (p_idx Tryz.underlying22 (.ofC tc_9) hrl rfl (mapget hy) rfl rfl rfl ?_))))
      refine p_stel 0 (.ofC tc_9) rfl (mapget hy) rfl rfl rfl rfl rfl (by repeat constructor) ?_
      refine o_keep (kp [0,1,4,5,6] rfl) (r_region (p_mv rfl rfl (p_add rfl rfl (by omega) rfl (p_as rfl rfl (o_keep (kp [0,1,4,5,6] rfl) (r_end (r_region ?_)))))))
      refine p_mv rfl rfl (p_add rfl rfl (by omega) rfl (p_as rfl rfl (o_keep (kp [0,1,4,5,6] rfl) ?_)))
      refine r_back_3 (i+1) (j+1) (ls.set i w) ?_ ?_ (Keep.app (kp [5,6] rfl) (kp [0,1,4] rfl)) ?_
      ·exact⟨⟨by omega,by omega⟩,by simpa using hI2,by rw[set_take (by omega),hI3,hfx],fun k hk=>by rw[List.getElem?_set_ne (by omega)];exact hI4 k (by omega)⟩
      ·omega
      ·rw[← rS_map_set];apply eI;repeat constructor
     ·skip
      have hne:¬ neW w=true:=by unfold neW;simpa using h4
      rw[if_neg hne] at hfx
      refine r_skip (r_end (r_region (p_mv rfl rfl (p_add rfl rfl (by omega) rfl (p_as rfl rfl (o_keep (kp [0,1,4,5,6] rfl) ?_))))))
      refine r_back_3 (i) (j+1) (ls) ?_ ?_ (Keep.app (kp [5,6] rfl) (kp [0,1,4] rfl)) ?_
      ·exact⟨⟨by omega,by omega⟩,hI2,by rw[hI3,hfx,List.append_nil],fun k hk=>hI4 k (by omega)⟩
      ·omega
      ·apply eI;repeat constructor
    ·skip
     have hjl:l.length≤j:=by have:=of_decide_eq_false h3;omega
     rw[List.take_of_length_le hjl] at hI3
     refine r_exit rfl (r_seq ?_)
     refine r_slne v (by simp;omega) ?_
     rintro b cap rfl hcap hr2
     rw[List.length_map] at hcap
     refine r_ent (arr_less (b:=b) (n:=i)) ?_
     refine r_region (p_mv rfl rfl (p_mv rfl rfl ?_))
     refine l_op (x_p (pv_slcl (l:=i) (h:=(ls.map rS).length) (mx:=cap) Tryz.underlying22 (.ofC tc_9) (by simp;omega) (by simp;omega) (by omega) rfl rfl rfl (.inr ⟨_,_,rfl,rfl,rfl⟩) (.inl ⟨rfl,rfl,rfl⟩) (.inl ⟨rfl,rfl,rfl⟩) (by simp)) rfl rfl ?_)
     refine l_op (x_clear (b:=b) (cap:=cap) (rows:=(ls.map rS).take i) (l:=i) Tryz.underlying22 el_9 SelR.ent (by simp;omega) (by simp;omega) (zoB.ok zo_9) rfl rfl rfl rfl (fun hm=>by rw[if_neg (by simp at hm;omega)];simp[addr_add]) ?_)
     refine o_keep (kp [0,4,5] rfl) (r_sr (p_mv rfl rfl (p_mv rfl rfl ?_)))
     refine l_op (x_p (pv_to (v':=.slice (some ⟨b,0,Option.none⟩) i cap) (pv_slcl (l:=0) (h:=i) (mx:=cap) Tryz.underlying22 (.ofC tc_9) (by omega) (by omega) (by omega) rfl rfl rfl (.inl ⟨rfl,rfl,rfl⟩) (.inr ⟨_,_,rfl,rfl,rfl⟩) (.inl ⟨rfl,rfl,rfl⟩) (by simp)) (by rw[if_neg (by omega)];simp[addr_add])) rfl rfl ?_)
     refine p_as rfl rfl (o_keep (kp [4] rfl) ?_)
     refine r_rete (.slice (some ⟨b,0,Option.none⟩) i cap) hF rfl (.c (.t rfl) .n) ?_ ?_
     ·rw[← hI3,List.map_take];refine Ent.catI ?_;refine Ent.c (Ent.slOf (by simp;omega)) ?_;apply eI;repeat constructor
     ·rfl
theorem desk_num (M:Amb)(H:List HP)(L:LibOk M)(n:Int)(h:i64 n):FnV Tryz.prog M H 28 [.int .i64 n] (str (Lib.itoa n)):=by
 refine fn_intro Tryz.func28 rfl Tryz.ntmps28 rfl fun F hF=>?_
 refine r_sr (p_as rfl rfl (o_keep (kp [0,2] rfl) (r_sr (p_mv rfl rfl ?_))))
 refine p_callv cf_52 (.c rfl .n) rfl (lib_Itoa L _ n h) ?_
 refine p_as rfl rfl (o_keep (kp [2] rfl) ?_)
 refine r_retv hF rfl (.c (.t rfl) .n) ?_ ?_
 ·apply eI;repeat constructor
 ·rfl
theorem ref_num (M:Amb)(H:List HP)(L:LibOk M)(n:Int)(h:i64 n):FnV Tryz.prog M H 33 [.int .i64 n] (str (Lib.itoa n)):=by
 refine fn_intro Tryz.func33 rfl Tryz.ntmps33 rfl fun F hF=>?_
 refine r_sr (p_as rfl rfl (o_keep (kp [0,2] rfl) (r_sr (p_mv rfl rfl ?_))))
 refine p_callv cf_52 (.c rfl .n) rfl (lib_Itoa L _ n h) ?_
 refine p_as rfl rfl (o_keep (kp [2] rfl) ?_)
 refine r_retv hF rfl (.c (.t rfl) .n) ?_ ?_
 ·apply eI;repeat constructor
 ·rfl
theorem desk_nums (M:Amb)(H:List HP)(L:LibOk M)(v:Value)(l:List Int)(hv:Rd M H v 1 (l.map rI))(hb:l.length≤1000)(hr:∀ n∈l,i64 n):FnV Tryz.prog M H 61 [v] (str (numsL l)):=by
 refine fn_intro Tryz.func61 rfl Tryz.ntmps61 rfl fun F hF=>?_
 refine r_sr (p_as rfl rfl (o_keep (kp [0,2] rfl) (r_sr (p_as rfl rfl (o_keep (kp [0,2,3] rfl) (r_seq (r_sr ?_)))))))
 refine p_mv rfl rfl (l_op (x_p (pv_lens hv.len ⟨_,Tryz.underlying65⟩ (.n rfl) rfl rfl rfl rfl fR) rfl rfl (p_mv rfl rfl (o_keep (kp [2,3,6,7,8] rfl) (r_block ?_)))))
 refine r_loop_2 (fun (i:Nat) (u:List UInt8)=>[(8,true,.int .i64 (i:Int)),(3,true,str u)]) (kp [2,6,7] rfl) (fun (i:Nat) (u:List UInt8)=>H) (fun (i:Nat) (u:List UInt8)=>i≤l.length∧u=numsL (l.take i)∧u.length≤22*i) (fun (i:Nat) (u:List UInt8)=>l.length - i) (0) ([]) ?_ (kp [8,3] rfl) ?_ (fun i u hI=>?_)
 ·exact⟨Nat.zero_le _,rfl,by simp⟩
 ·apply eI;repeat constructor
 ·skip
  obtain⟨hi0,hu,hul⟩:=hI
  refine r_sr (p_lss rfl rfl rfl (o_keep (kp [2,3,6,7,8,9] rfl) (r_seq (r_cond _ rfl (fun h1=>?_) (fun h1=>?_)))))
  ·skip
   obtain⟨n,hn⟩:=getlt (l:=l) (i:=i) (by have:=of_decide_eq_true h1;omega)
   have hil:=(List.getElem?_eq_some_iff.1 hn).1
   have hn6:=hr n (List.mem_of_getElem? hn)
   have hit:=Lib.itoa_length_le n hn6.1 hn6.2
   refine r_skip (r_seq (r_block (r_sr (p_idx Tryz.underlying65 (.ofC tc_3) hv rfl (mapget hn) rfl rfl rfl (p_ldat 0 tc_3 (Rd.ent hv (eJ (by repeat constructor))) (mapget hn) rfl rfl rfl rfl ?_)))))
   refine p_as rfl rfl (o_keep (kp [2,3,5,6,7,8] rfl) (r_region (p_mv rfl rfl (p_mv rfl rfl ?_))))
   refine p_callv cf_28 (.c rfl .n) rfl (desk_num _ _ L n hn6) ?_
   refine l_op (x_p (pv_sadd (fun _=>by (try simp only[List.length_append,List.length_cons,List.length_nil]);omega) (.n rfl) rfl rfl rfl fS) rfl rfl ?_)
   refine l_op (x_p (pv_sadd (fun _=>by (try simp only[List.length_append,List.length_cons,List.length_nil]);omega) (.n rfl) rfl rfl rfl fS) rfl rfl ?_)
   refine p_as rfl rfl (o_keep (kp [2,3,6,7,8] rfl) (r_end (r_region (p_add rfl rfl (by omega) rfl (p_mv rfl rfl (o_keep (kp [2,3,6,7,8] rfl) ?_))))))
   refine r_back_2 (i+1) (_) ?_ ?_ (Keep.app (kp [8,3] rfl) (kp [2,6,7] rfl)) ?_
   ·exact⟨by omega,by rw[numsL_take hn,← hu];rfl,by simp;omega⟩
   ·omega
   ·apply eI;repeat constructor
  ·skip
   have hil:l.length≤i:=by have:=of_decide_eq_false h1;omega
   rw[List.take_of_length_le hil] at hu
   refine r_exit rfl (r_sr (p_mv rfl rfl (p_as rfl rfl (o_keep (kp [2] rfl) ?_))))
   refine r_retv hF rfl (.c (.t rfl) .n) ?_ ?_
   ·apply eI;repeat constructor
   ·rw[hu];rfl
theorem numsL_len{l:List Int}(hr:∀ n∈l,i64 n):(numsL l).length≤22*l.length:=by
  induction l with
  | nil=>simp[numsL]
  | cons n l ih=>
    have h1:=hr n (by simp)
    have:=Lib.itoa_length_le n h1.1 h1.2
    have:=ih fun m hm=>hr m (by simp[hm])
    simp only[numsL,List.flatMap_cons,List.length_append,List.length_cons] at this ⊢
    omega
end Go.Proofs.YtmakdilmibjpbaaGreatDoor
