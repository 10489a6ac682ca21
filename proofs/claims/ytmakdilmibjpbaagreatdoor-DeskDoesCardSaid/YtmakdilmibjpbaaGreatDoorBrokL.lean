/- A broker, in plain Lean: deals, what was said of them, and what is due. No program in sight. Brokers, in plain Lean: what their statements ask. No program in sight. -/
import Derived.Test.YtmakdilmibjpbaaGreatDoorKeeps
namespace Go.Proofs.YtmakdilmibjpbaaGreatDoor
open Go Go.RowKit
set_option linter.unusedVariables false
set_option linter.unusedSimpArgs false
structure Deal where
  wants:List Want
  state:Int
  yes:List Bool
  over:List Int
structure BrokS where
  l:List Deal
  order:List Int
def stateB (b:BrokS)(n:Int):Int:=if n<0 then -1 else match b.l[n.toNat]? with|none=>-1|some d=>d.state
def wantsB (b:BrokS)(n:Int):List Want:=if n<0 then [] else match b.l[n.toNat]? with|none=>[]|some d=>d.wants
def noYes (l:List Want):List Bool:=List.replicate l.length false
def beginB (b:BrokS)(l:List Want):BrokS×Int×Int:=
  if (checkL l).code≠0 then (b,0,(checkL l).code) else if 8≤b.l.length then (b,0,6)
  else ({b with l:=b.l++[⟨l,0,noYes l,[]⟩]},b.l.length,0)
def decideB (b:BrokS)(n:Nat)(st:Int):BrokS:=match b.l[n]? with
  | none=>b
  | some d=>if d.state≠0 then b else ⟨b.l.set n {d with state:=st},if st=1 then b.order++[(n:Int)] else b.order⟩
def quitB (b:BrokS)(n:Int):BrokS×Int:=if stateB b n=-1 then (b,7) else if stateB b n=0 then (decideB b n.toNat 2,0) else (b,8)
def atW (l:List Want)(c d:Int):Option Nat:=l.findIdx? fun w=>decide (w=⟨c,d⟩)
def setD (b:BrokS)(n:Nat)(d:Deal):BrokS:={b with l:=b.l.set n d}
def hearB (b:BrokS)(m:Mail):BrokS:=
  if m.deal<0 then b else match b.l[m.deal.toNat]? with
  | none=>b
  | some d=>
    if m.kind=2 then
      match atW d.wants m.ctr m.dl with
      | none=>b
      | some i=>if shopOf m.ctr≠m.shop∨d.state≠0 then b
        else if m.yes=false then decideB b m.deal.toNat 2
        else if (d.yes.set i true).contains false then setD b m.deal.toNat {d with yes:=d.yes.set i true}
        else decideB (setD b m.deal.toNat {d with yes:=d.yes.set i true}) m.deal.toNat 1
    else if m.kind=4 then
      if d.state≠0∧(shopsL d.wants).contains m.shop=true∧d.over.contains m.shop=false then setD b m.deal.toNat {d with over:=d.over++[m.shop]} else b
    else b
def dueW (n:Int):List Want→List Bool→List Mail
  | w::l,y::k=>if y then dueW n l k else ⟨1,n,shopOf w.ctr,w.ctr,w.dl,false⟩::dueW n l k
  | _,_=>[]
def dueD (n:Int)(d:Deal):List Mail:=
  if d.state≠0 then ((shopsL d.wants).filter fun s=>!d.over.contains s).map fun s=>⟨3,n,s,0,0,decide (d.state=1)⟩ else dueW n d.wants d.yes
def dueL:Int→List Deal→List Mail
  | _,[]=>[]
  | n,d::l=>dueD n d++dueL (n+1) l
def dueB (b:BrokS):List Mail:=dueL 0 b.l
def crashD (d:Deal):Deal:=⟨d.wants,if d.state=0 then 2 else d.state,noYes d.wants,[]⟩
def crashB (b:BrokS):BrokS:={b with l:=b.l.map crashD}
structure DOk (d:Deal):Prop where
  w:(checkL d.wants).code=0
  st:d.state=0∨d.state=1∨d.state=2
  y:d.yes.length=d.wants.length
  op:d.state=0→d.over=[]∧d.yes.contains false=true
  ov:d.over.Nodup∧∀ s∈d.over,s∈shopsL d.wants
structure BInv (b:BrokS):Prop where
  len:b.l.length≤8
  d:∀ d∈b.l,DOk d
  nd:b.order.Nodup
  ord:∀ n:Int,n∈b.order↔stateB b n=1
theorem stateB_at{b:BrokS}{n:Nat}{d:Deal}(h:b.l[n]?=some d):stateB b (n:Int)=d.state:=by
  unfold stateB;rw[if_neg (by omega)];simp[h]
theorem stateB_in{b:BrokS}{n:Int}(h:0≤n)(h2:n<b.l.length):∃ d,b.l[n.toNat]?=some d∧stateB b n=d.state:=by
  refine⟨b.l[n.toNat],List.getElem?_eq_getElem (by omega),?_⟩
  unfold stateB;rw[if_neg (by omega),List.getElem?_eq_getElem (by omega)]
theorem stateB_out{b:BrokS}{n:Int}(h:n<0∨(b.l.length:Int)≤n):stateB b n=-1:=by
  unfold stateB
  split
  · rfl
  · rw[List.getElem?_eq_none (by omega)]
theorem BInv.st{b:BrokS}(h:BInv b)(n:Int):(stateB b n=-1∧(n<0∨(b.l.length:Int)≤n))∨(0≤n∧n<b.l.length∧(stateB b n=0∨stateB b n=1∨stateB b n=2)):=by
  by_cases h1:n<0∨(b.l.length:Int)≤n
  · exact .inl ⟨stateB_out h1,h1⟩
  · obtain⟨d,hd,e⟩:=stateB_in (b:=b) (n:=n) (by omega) (by omega)
    rw[e]
    exact .inr ⟨by omega,by omega,(h.d d (List.mem_of_getElem? hd)).st⟩
theorem stateB_set{b:BrokS}{n:Nat}{d:Deal}{o:List Int}(h:n<b.l.length)(m:Int):stateB ⟨b.l.set n d,o⟩ m=if m=n then d.state else stateB b m:=by
  unfold stateB
  dsimp only
  by_cases h0:m<0
  · rw[if_pos h0,if_neg (by omega),if_pos h0]
  · rw[if_neg h0,if_neg h0,List.getElem?_set]
    by_cases e:m=n
    · subst e;simp[h]
    · rw[if_neg e,if_neg (by omega)]
theorem BInv.put{b:BrokS}(h:BInv b){n:Nat}{d d':Deal}(hd:b.l[n]?=some d)(hs:d'.state=d.state)(hk:DOk d'):BInv (setD b n d'):=by
  have hn:=(List.getElem?_eq_some_iff.1 hd).1
  refine⟨by simp[setD];exact h.len,fun x hx=>?_,h.nd,fun m=>?_⟩
  · rcases List.mem_or_eq_of_mem_set hx with hx|rfl
    · exact h.d x hx
    · exact hk
  · show m∈b.order↔_
    rw[h.ord]
    show _↔stateB ⟨b.l.set n d',b.order⟩ m=1
    rw[stateB_set hn]
    split
    · rename_i e;rw[e,stateB_at hd,hs]
    · rfl
theorem BInv.dec{b:BrokS}(h:BInv b){n:Nat}{d:Deal}(hd:b.l[n]?=some d)(st:Int)(hst:st=1∨st=2)(hk:d.state=0→DOk {d with state:=st}):BInv (decideB b n st):=by
  have hn:=(List.getElem?_eq_some_iff.1 hd).1
  unfold decideB;rw[hd];dsimp only
  split
  · exact h
  · rename_i h0
    have h0:d.state=0:=by omega
    have hno:(n:Int)∉b.order:=fun hc=>by
      have:=(h.ord n).1 hc
      rw[stateB_at hd] at this;omega
    refine⟨by simpa using h.len,fun x hx=>?_,?_,fun m=>?_⟩
    · rcases List.mem_or_eq_of_mem_set hx with hx|rfl
      · exact h.d x hx
      · exact hk h0
    · dsimp only
      split
      · rw[List.nodup_append]
        exact⟨h.nd,by simp,fun a ha x hx=>by simp at hx;subst hx;intro e;subst e;exact hno ha⟩
      · exact h.nd
    · rw[stateB_set hn]
      dsimp only
      by_cases hs:st=1
      · rw[if_pos hs,List.mem_append,h.ord]
        by_cases e:m=n
        · simp[e,hs]
        · simp[e]
      · rw[if_neg hs,h.ord]
        by_cases e:m=n
        · subst e;rw[stateB_at hd];simp[hs];omega
        · simp[e]
theorem BInv.new:BInv ⟨[],[]⟩:=⟨by simp,by simp,by simp,fun n=>by simp[stateB_out];intro h;unfold stateB at h;split at h<;>simp at h⟩
theorem noYes_len (l:List Want):(noYes l).length=l.length:=by simp[noYes]
theorem noYes_false{l:List Want}(h:0<l.length):(noYes l).contains false=true:=by
  unfold noYes
  cases l with
  | nil=>simp at h
  | cons a l=>simp[List.replicate_succ]
theorem BInv.begin{b:BrokS}(h:BInv b)(l:List Want):BInv (beginB b l).1:=by
  unfold beginB
  split
  · exact h
  · rename_i hc
    have hc:(checkL l).code=0:=by omega
    split
    · exact h
    · rename_i h8
      have hl:=((checkL_ok l).1 hc)
      refine⟨by simp;omega,fun d hd=>?_,h.nd,fun n=>?_⟩
      · rcases List.mem_append.1 hd with hd|hd
        · exact h.d d hd
        · simp at hd;subst hd
          exact⟨hc,.inl rfl,noYes_len l,fun _=>⟨rfl,noYes_false hl.1⟩,by simp,by simp⟩
      · dsimp only
        rw[h.ord]
        unfold stateB
        dsimp only
        by_cases h0:n<0
        · rw[if_pos h0,if_pos h0]
        · rw[if_neg h0,if_neg h0]
          by_cases hlt:n.toNat<b.l.length
          · rw[List.getElem?_append_left hlt]
          · rw[List.getElem?_eq_none (l:=b.l) (by omega),List.getElem?_append_right (by omega)]
            by_cases e:n.toNat - b.l.length=0
            · simp[e]
            · rw[List.getElem?_eq_none (by simp;omega)]
theorem BInv.quit{b:BrokS}(h:BInv b)(n:Int):BInv (quitB b n).1:=by
  unfold quitB
  split
  · exact h
  · split
    · rename_i h1 h2
      rcases h.st n with ⟨e,_⟩|⟨n0,nl,_⟩
      · omega
      · obtain⟨d,hd,e⟩:=stateB_in (b:=b) n0 nl
        have hk:=h.d d (List.mem_of_getElem? hd)
        exact h.dec hd 2 (.inr rfl) fun h0=>⟨hk.w,.inr (.inr rfl),hk.y,(fun h=>by cases h),hk.ov⟩
    · exact h
theorem atW_some{l:List Want}{c d:Int}{i:Nat}(h:atW l c d=some i):l[i]?=some ⟨c,d⟩∧∀ j,j<i→l[j]?≠some ⟨c,d⟩:=by
  unfold atW at h
  rw[List.findIdx?_eq_some_iff_getElem] at h
  obtain⟨h1,h2,h3⟩:=h
  refine⟨by rw[List.getElem?_eq_getElem h1];simpa using h2,fun j hj e=>?_⟩
  have:=h3 j hj
  rw[List.getElem?_eq_getElem (by omega)] at e
  simp at e this
  exact this e
theorem atW_none{l:List Want}{c d:Int}(h:atW l c d=none):⟨c,d⟩∉l:=by
  unfold atW at h
  rw[List.findIdx?_eq_none_iff] at h
  intro hm
  simpa using h _ hm
theorem BInv.hear{b:BrokS}(h:BInv b)(m:Mail):BInv (hearB b m):=by
  unfold hearB
  split
  · exact h
  · rename_i hn0
    split
    · exact h
    · rename_i d hd
      have hk:=h.d d (List.mem_of_getElem? hd)
      split
      · split
        · exact h
        · rename_i i hi
          have hi':=(atW_some hi).1
          have hil:=(List.getElem?_eq_some_iff.1 hi').1
          split
          · exact h
          · rename_i hs
            have hs:shopOf m.ctr=m.shop∧d.state=0:=by omega
            split
            · exact h.dec hd 2 (.inr rfl) fun h0=>⟨hk.w,.inr (.inr rfl),hk.y,(fun h=>by cases h),hk.ov⟩
            · split
              · rename_i hc
                exact h.put hd rfl ⟨hk.w,hk.st,by simpa using hk.y,fun h0=>⟨(hk.op h0).1,hc⟩,hk.ov⟩
              · rename_i hc
                have hnl:=(List.getElem?_eq_some_iff.1 hd).1
                have e:decideB (setD b m.deal.toNat {d with yes:=d.yes.set i true}) m.deal.toNat 1=⟨b.l.set m.deal.toNat {d with yes:=d.yes.set i true,state:=1},b.order++[((m.deal.toNat:Nat):Int)]⟩:=by
                  unfold decideB setD
                  dsimp only
                  rw[List.getElem?_set_self hnl]
                  dsimp only
                  rw[if_neg (by omega)];simp
                rw[e]
                have hk2:DOk {d with yes:=d.yes.set i true,state:=1}:=⟨hk.w,.inr (.inl rfl),by simpa using hk.y,(fun h=>by cases h),hk.ov⟩
                have:=h.dec hd 1 (.inl rfl) fun h0=>⟨hk.w,.inr (.inl rfl),hk.y,(fun h=>by cases h),hk.ov⟩
                unfold decideB at this;rw[hd] at this;dsimp only at this;rw[if_neg (by omega),if_pos rfl] at this
                refine⟨by simpa using h.len,fun x hx=>?_,this.nd,fun q=>?_⟩
                · rcases List.mem_or_eq_of_mem_set hx with hx|rfl
                  · exact h.d x hx
                  · exact hk2
                · have e2:=this.ord q
                  dsimp only at e2 ⊢
                  rw[e2,stateB_set hnl,stateB_set hnl]
      · split
        · split
          · rename_i hc
            refine h.put hd rfl ⟨hk.w,hk.st,hk.y,fun h0=>absurd h0 hc.1,?_,?_⟩
            · rw[List.nodup_append]
              refine⟨hk.ov.1,by simp,fun a ha x hx=>?_⟩
              simp at hx;subst hx
              intro e;subst e
              have:=hc.2.2
              simp[ha] at this
            · intro s hs'
              rcases List.mem_append.1 hs' with hs'|hs'
              · exact hk.ov.2 s hs'
              · simp at hs';subst hs';simpa using hc.2.1
          · exact h
        · exact h
theorem crashD_ok{d:Deal}(h:DOk d):DOk (crashD d):=by
  refine⟨h.w,?_,noYes_len _,fun h0=>?_,by simp[crashD],by simp[crashD]⟩
  · unfold crashD;dsimp only;split
    · exact .inr (.inr rfl)
    · exact h.st
  · exfalso
    unfold crashD at h0;dsimp only at h0
    split at h0
    · cases h0
    · rename_i h1;exact h1 h0
theorem stateB_crash (b:BrokS)(n:Int):stateB (crashB b) n=if stateB b n=0 then 2 else stateB b n:=by
  unfold stateB crashB
  dsimp only
  split
  · rfl
  · rw[List.getElem?_map]
    cases b.l[n.toNat]? with
    | none=>rfl
    | some d=>rfl
theorem BInv.crash{b:BrokS}(h:BInv b):BInv (crashB b):=by
  refine⟨by simpa[crashB] using h.len,fun d hd=>?_,h.nd,fun n=>?_⟩
  · obtain⟨x,hx,rfl⟩:=List.mem_map.1 hd
    exact crashD_ok (h.d x hx)
  · show n∈b.order↔_
    rw[h.ord,stateB_crash]
    split
    · rename_i e;rw[e];simp
    · rfl
end Go.Proofs.YtmakdilmibjpbaaGreatDoor
namespace Go.Proofs.YtmakdilmibjpbaaGreatDoor
open Go Go.RowKit
set_option linter.unusedVariables false
set_option linter.unusedSimpArgs false
theorem set_selfE{α:Type}{l:List α}{i:Nat}{a:α}(h:l[i]?=some a):l.set i a=l:=by
  obtain⟨hi,rfl⟩:=List.getElem?_eq_some_iff.1 h
  exact List.set_getElem_self hi
theorem wantsB_at{b:BrokS}{n:Nat}{d:Deal}(h:b.l[n]?=some d):wantsB b (n:Int)=d.wants:=by
  unfold wantsB;rw[if_neg (by omega)];simp[h]
theorem wantsB_in{b:BrokS}{n:Int}{w:Want}(h:w∈wantsB b n):∃ m d,n=(m:Nat)∧b.l[m]?=some d∧wantsB b n=d.wants∧stateB b n=d.state:=by
  unfold wantsB at h
  split at h
  · cases h
  · split at h
    · cases h
    · rename_i h0 d hd
      have e:n=(n.toNat:Nat):=by omega
      exact⟨n.toNat,d,e,hd,by rw[e];exact wantsB_at (by simpa using hd),by rw[e];exact stateB_at (by simpa using hd)⟩
theorem mem_shopsL{l:List Want}{s:Int}:s∈shopsL l↔(0≤s∧s<3)∧∃ w∈l,shopOf w.ctr=s:=by
  unfold shopsL
  rw[List.mem_filter,List.any_eq_true]
  simp only[List.mem_cons,List.not_mem_nil,or_false,decide_eq_true_eq]
  constructor
  · rintro⟨h1,h2⟩;exact⟨by omega,h2⟩
  · rintro⟨h1,h2⟩;exact⟨by omega,h2⟩
theorem dueW_mem{n:Int}:∀ {l:List Want} {k:List Bool} {m:Mail},m∈dueW n l k→∃ w∈l,m=⟨1,n,shopOf w.ctr,w.ctr,w.dl,false⟩
  | [],_,_,h=>by simp[dueW] at h
  | _::_,[],_,h=>by simp[dueW] at h
  | w::l,y::k,m,h=>by
    simp only[dueW] at h
    split at h
    · obtain⟨x,hx,e⟩:=dueW_mem h;exact⟨x,by simp[hx],e⟩
    · rcases List.mem_cons.1 h with rfl|h
      · exact⟨w,by simp,rfl⟩
      · obtain⟨x,hx,e⟩:=dueW_mem h;exact⟨x,by simp[hx],e⟩
theorem dueL_mem:∀ {l:List Deal} {n:Int} {m:Mail},m∈dueL n l↔∃ (i:Nat) (d:Deal),l[i]?=some d∧m∈dueD (n+i) d
  | [],n,m=>by simp[dueL]
  | d::l,n,m=>by
    simp only[dueL,List.mem_append]
    rw[dueL_mem]
    constructor
    · rintro (h|⟨i,d',h1,h2⟩)
      · exact⟨0,d,by simp,by simpa using h⟩
      · exact⟨i+1,d',by simpa using h1,by rw[show n+((i+1:Nat):Int)=n+1+i by omega];exact h2⟩
    · rintro⟨i,d',h1,h2⟩
      cases i with
      | zero=>simp at h1;subst h1;exact .inl (by simpa using h2)
      | succ i=>exact .inr ⟨i,d',by simpa using h1,by rw[show n+1+(i:Int)=n+((i+1:Nat):Int) by omega];exact h2⟩
theorem dueB_mem{b:BrokS}{m:Mail}:m∈dueB b↔∃ (i:Nat) (d:Deal),b.l[i]?=some d∧m∈dueD i d:=by
  unfold dueB;rw[dueL_mem];simp
theorem dueD_mem{n:Nat}{d:Deal}{m:Mail}:m∈dueD n d→(d.state≠0∧∃ s∈shopsL d.wants,s∉d.over∧m=⟨3,n,s,0,0,decide (d.state=1)⟩)∨(d.state=0∧∃ w∈d.wants,m=⟨1,n,shopOf w.ctr,w.ctr,w.dl,false⟩):=by
  intro h
  unfold dueD at h
  split at h
  · rename_i h0
    obtain⟨s,hs,rfl⟩:=List.mem_map.1 h
    rw[List.mem_filter] at hs
    exact .inl ⟨h0,s,hs.1,by simpa using hs.2,rfl⟩
  · rename_i h0
    exact .inr ⟨by omega,dueW_mem h⟩
theorem wantsB_set{b:BrokS}{n:Nat}{d d':Deal}{o:List Int}(hd:b.l[n]?=some d)(hw:d'.wants=d.wants)(m:Int):wantsB ⟨b.l.set n d',o⟩ m=wantsB b m:=by
  have hn:=(List.getElem?_eq_some_iff.1 hd).1
  unfold wantsB
  dsimp only
  by_cases h0:m<0
  · rw[if_pos h0,if_pos h0]
  · rw[if_neg h0,if_neg h0]
    by_cases e:n=m.toNat
    · subst e;rw[List.getElem?_set_self hn,hd];exact hw
    · rw[List.getElem?_set_ne e]
theorem set_yes{l:List Bool}{i:Nat}(hi:i<l.length):((l.set i true).contains false=false)↔∀ j:Nat,j<l.length→j=i∨l[j]?=some true:=by
  rw[← Bool.not_eq_true,List.contains_iff_mem]
  constructor
  · intro h j hj
    by_cases e:j=i
    · exact .inl e
    · refine .inr ?_
      rw[List.getElem?_eq_getElem hj]
      cases hb:l[j] with
      | true=>rfl
      | false=>
        exfalso;refine h (List.mem_of_getElem? (i:=j) ?_)
        rw[List.getElem?_set_ne (by omega),List.getElem?_eq_getElem hj,hb]
  · intro h hm
    obtain⟨j,hj,e⟩:=List.mem_iff_getElem.1 hm
    have hj':j<l.length:=by simpa using hj
    have e':(l.set i true)[j]?=some false:=by rw[List.getElem?_eq_getElem hj,e]
    rcases h j hj' with rfl|h
    · rw[List.getElem?_set_self hi] at e';cases e'
    · by_cases hji:j=i
      · subst hji;rw[List.getElem?_set_self hi] at e';cases e'
      · rw[List.getElem?_set_ne (by omega),h] at e';cases e'
theorem full_iff{n:Nat}{hs:List Int}(nd:hs.Nodup)(rng:∀ x∈hs,0≤x∧x<(n:Int)):hs.length=n↔∀ i:Nat,i<n→(i:Int)∈hs:=by
  have hr:((List.range n).map fun i:Nat=>(i:Int)).length=n:=by simp
  have hle:hs.length≤n:=by
    rw[← hr]
    refine nodup_le nd fun x hx=>?_
    have:=rng x hx
    exact List.mem_map.2 ⟨x.toNat,by simp;omega,by omega⟩
  constructor
  · intro h i hi
    refine Classical.byContradiction fun hn=>?_
    have:((i:Int)::hs).length≤n:=by
      rw[← hr]
      refine nodup_le (List.nodup_cons.2 ⟨hn,nd⟩) fun x hx=>?_
      rcases List.mem_cons.1 hx with rfl|hx
      · exact List.mem_map.2 ⟨i,by simpa using hi,rfl⟩
      · have:=rng x hx
        exact List.mem_map.2 ⟨x.toNat,by simp;omega,by omega⟩
    simp at this;omega
  · intro h
    have:((List.range n).map fun i:Nat=>(i:Int)).length≤hs.length:=nodup_le (by
      rw[List.nodup_iff_pairwise_ne,List.pairwise_map]
      exact List.nodup_range.imp fun h=>by omega) fun x hx=>by
      obtain⟨i,hi,rfl⟩:=List.mem_map.1 hx
      exact h i (by simpa using hi)
    omega
def shopsN (l:List Deal):Nat:=(l.map fun d=>(shopsL d.wants).length).sum
theorem shopsN_le:∀ (l:List Deal),shopsN l≤3*l.length
  | []=>by simp[shopsN]
  | d::l=>by
    have:=shopsN_le l
    have h1:(shopsL d.wants).length≤3:=List.length_filter_le _ _
    unfold shopsN at this ⊢
    simp only[List.map_cons,List.sum_cons,List.length_cons];omega
theorem hearB_at {s : BrokS} {i : Nat} {d : Deal} {m : Mail} (hd : s.l[i]? = some d) (hm : m.deal = (i : Int)) : hearB s m =
    if m.kind = 2 then
      match atW d.wants m.ctr m.dl with
      | none => s
      | some j => if shopOf m.ctr ≠ m.shop ∨ d.state ≠ 0 then s
        else if m.yes = false then decideB s i 2
        else if (d.yes.set j true).contains false then ⟨s.l.set i { d with yes := d.yes.set j true }, s.order⟩
        else decideB ⟨s.l.set i { d with yes := d.yes.set j true }, s.order⟩ i 1
    else if m.kind = 4 then
      if d.state ≠ 0 ∧ (shopsL d.wants).contains m.shop = true ∧ d.over.contains m.shop = false then ⟨s.l.set i { d with over := d.over ++ [m.shop] }, s.order⟩ else s
    else s := by
  unfold hearB
  rw[if_neg (by omega)]
  have e:m.deal.toNat=i:=by omega
  rw[e,hd]
  rfl
theorem hearB_out{s:BrokS}{m:Mail}(h:m.deal<0∨(s.l.length:Int)≤m.deal):hearB s m=s:=by
  unfold hearB
  split
  · rfl
  · rw[List.getElem?_eq_none (by omega)]
theorem idxW (l:List Want)(c d:Int):idxI l (fun x=>decide (x=⟨c,d⟩))=match atW l c d with|some i=>(i:Int)|none=>-1:=rfl
theorem sayCases (l : List Want) (c d s : Int) : (atW l c d = none ∧ Value.int .i64 (idxI l fun x => decide (x = ⟨c, d⟩)) = .int .i64 (-1)) ∨ (∃ j : Nat, atW l c d = some j ∧ Value.int .i64 (idxI l fun x => decide (x = ⟨c, d⟩)) = .int .i64 (j : Int) ∧ j < l.length ∧ shopOf c ≠ s) ∨
    (∃ j : Nat, atW l c d = some j ∧ Value.int .i64 (idxI l fun x => decide (x = ⟨c, d⟩)) = .int .i64 (j : Int) ∧ j < l.length ∧ shopOf c = s) := by
  rw[idxW]
  cases h:atW l c d with
  | none=>exact .inl ⟨rfl,rfl⟩
  | some j=>
    have hj:=(List.getElem?_eq_some_iff.1 (atW_some h).1).1
    by_cases hs:shopOf c=s
    · exact .inr (.inr ⟨j,rfl,rfl,hj,hs⟩)
    · exact .inr (.inl ⟨j,rfl,rfl,hj,hs⟩)
theorem overCases (d:Deal)(s:Int):(d.state=0)∨(d.state≠0∧(shopsL d.wants).contains s=false)∨(d.state≠0∧(shopsL d.wants).contains s=true):=by
  by_cases h:d.state=0
  · exact .inl h
  · cases h2:(shopsL d.wants).contains s
    · exact .inr (.inl ⟨h,rfl⟩)
    · exact .inr (.inr ⟨h,rfl⟩)
theorem DOk.le{d:Deal}(h:DOk d):d.wants.length≤4∧d.yes.length≤4∧d.over.length≤3:=by
  have h1:=((checkL_ok _).1 h.w).2.1
  have h2:=nodup_le h.ov.1 h.ov.2
  have h3:(shopsL d.wants).length≤3:=List.length_filter_le _ _
  exact⟨by omega,by have:=h.y;omega,by omega⟩
theorem BInv.ord_le{b:BrokS}(h:BInv b):b.order.length≤8:=by
  have h1:((List.range b.l.length).map fun i:Nat=>(i:Int)).length=b.l.length:=by simp
  have:=h.len
  have h2:=nodup_le (L:=(List.range b.l.length).map fun i:Nat=>(i:Int)) h.nd fun x hx=>by
    have h3:=(h.ord x).1 hx
    rcases h.st x with ⟨e,_⟩|⟨h0,hl,_⟩
    · omega
    · exact List.mem_map.2 ⟨x.toNat,by simp;omega,by omega⟩
  omega
theorem dueW_len{n:Int}:∀ (l:List Want) (k:List Bool),(dueW n l k).length≤l.length
  | [],_=>by simp[dueW]
  | _::_,[]=>by simp[dueW]
  | w::l,y::k=>by
    have:=dueW_len (n:=n) l k
    simp only[dueW,List.length_cons]
    split<;>simp<;>omega
theorem dueD_len{n:Int}{d:Deal}(h:DOk d):(dueD n d).length≤4:=by
  unfold dueD
  split
  · rw[List.length_map]
    exact Nat.le_trans (List.length_filter_le _ _) (Nat.le_trans (List.length_filter_le _ _) (by decide))
  · exact Nat.le_trans (dueW_len _ _) h.le.1
theorem dueL_le:∀ {l:List Deal} {n:Int},(∀ d∈l,DOk d)→(dueL n l).length≤4*l.length
  | [],_,_=>by simp[dueL]
  | d::l,n,h=>by
    have h1:=dueD_len (n:=n) (h d (by simp))
    have h2:=dueL_le (l:=l) (n:=n+1) fun x hx=>h x (by simp[hx])
    simp only[dueL,List.length_append,List.length_cons];omega
theorem dueL_take{l:List Deal}{i:Nat}{d:Deal}:∀ {n:Int},l[i]?=some d→dueL n (l.take (i+1))=dueL n (l.take i)++dueD (n+i) d:=by
  induction l generalizing i with
  | nil=>intro n h;simp at h
  | cons x l ih=>
    intro n h
    cases i with
    | zero=>simp at h;subst h;simp[dueL]
    | succ i=>
      simp only[List.take_succ_cons,dueL,List.append_assoc]
      rw[ih (n:=n+1) (by simpa using h),show n+1+(i:Int)=n+((i+1:Nat):Int) by omega]
theorem dueW_take{l:List Want}{k:List Bool}{j:Nat}{w:Want}{y:Bool}{n:Int}(h1:l[j]?=some w)(h2:k[j]?=some y):dueW n (l.take (j+1)) (k.take (j+1))=dueW n (l.take j) (k.take j)++(if y then [] else [⟨1,n,shopOf w.ctr,w.ctr,w.dl,false⟩]):=by
  induction l generalizing j k with
  | nil=>simp at h1
  | cons x l ih=>
    cases k with
    | nil=>simp at h2
    | cons z k=>
      cases j with
      | zero=>simp at h1 h2;subst h1;subst h2;cases z<;>simp[dueW]
      | succ j=>
        simp only[List.take_succ_cons,dueW]
        rw[ih (by simpa using h1) (by simpa using h2)]
        split<;>simp
def endM (n:Int)(d:Deal)(s:Int):Mail:=⟨3,n,s,0,0,decide (d.state=1)⟩
def dueS (n:Int)(d:Deal)(sh:List Int):List Mail:=(sh.filter fun s=>!d.over.contains s).map (endM n d)
theorem dueS_take{n:Int}{d:Deal}{sh:List Int}{j:Nat}{s:Int}(h:sh[j]?=some s):dueS n d (sh.take (j+1))=dueS n d (sh.take j)++(if d.over.contains s then [] else [endM n d s]):=by
  unfold dueS
  rw[List.take_add_one,h,List.filter_append,List.map_append]
  by_cases hc:s∈d.over<;>simp[hc]
theorem dueD_end{n:Int}{d:Deal}(h:d.state≠0):dueD n d=dueS n d (shopsL d.wants):=by unfold dueD;rw[if_pos h];rfl
theorem dueD_ask{n:Int}{d:Deal}(h:d.state=0):dueD n d=dueW n d.wants d.yes:=by unfold dueD;rw[if_neg (by omega)]
theorem dueS_len{n:Int}{d:Deal}(sh:List Int):(dueS n d sh).length≤sh.length:=by unfold dueS;rw[List.length_map];exact List.length_filter_le _ _
def crashT (s:BrokS)(i:Nat):BrokS:=⟨(s.l.take i).map crashD++s.l.drop i,s.order⟩
theorem crashT_0 (s:BrokS):crashT s 0=s:=by simp[crashT]
theorem crashT_all (s:BrokS){i:Nat}(h:s.l.length≤i):crashT s i=crashB s:=by
  unfold crashT crashB;rw[List.take_of_length_le h,List.drop_eq_nil_of_le h];simp
theorem crashT_len (s:BrokS)(i:Nat):(crashT s i).l.length=s.l.length:=by simp[crashT];omega
theorem crashT_at{s:BrokS}{i:Nat}{d:Deal}(h:s.l[i]?=some d):(crashT s i).l[i]?=some d:=by
  have hi:=(List.getElem?_eq_some_iff.1 h).1
  unfold crashT
  rw[List.getElem?_append_right (by simp;omega),List.length_map,List.length_take,Nat.min_eq_left (by omega),Nat.sub_self,List.getElem?_drop]
  simpa using h
theorem crashT_next{s:BrokS}{i:Nat}{d:Deal}(h:s.l[i]?=some d):⟨(decideB (crashT s i) i 2).l.set i ⟨d.wants,if d.state=0 then 2 else d.state,noYes d.wants,[]⟩,(decideB (crashT s i) i 2).order⟩=crashT s (i+1)∧∃ d',(decideB (crashT s i) i 2).l[i]?=some d'∧d'.wants=d.wants∧d'.state=(if d.state=0 then 2 else d.state)∧d'.yes=d.yes∧d'.over=d.over:=by
  have hi:=(List.getElem?_eq_some_iff.1 h).1
  have hat:=crashT_at h
  have hset:∀ x:Deal,(crashT s i).l.set i x=(s.l.take i).map crashD++x::s.l.drop (i+1):=fun x=>by
    unfold crashT
    dsimp only
    rw[List.set_append_right _ _ (by simp;omega),List.length_map,List.length_take,Nat.min_eq_left (by omega),Nat.sub_self,drop_at h]
    rfl
  have hn:(crashT s (i+1)).l=(s.l.take i).map crashD++crashD d::s.l.drop (i+1):=by
    unfold crashT
    dsimp only
    rw[List.take_add_one,h];simp
  unfold decideB
  rw[hat]
  dsimp only
  by_cases h0:d.state=0
  · rw[if_neg (by omega)]
    dsimp only
    refine⟨?_,{d with state:=2},by rw[List.getElem?_set_self (by rw[crashT_len];exact hi)],rfl,by rw[if_pos h0],rfl,rfl⟩
    rw[List.set_set,hset]
    show (⟨_,_⟩:BrokS)=crashT s (i+1)
    have:crashT s (i+1)=⟨(crashT s (i+1)).l,s.order⟩:=rfl
    rw[this,hn]
    simp[crashD,crashT]
  · rw[if_pos h0]
    refine⟨?_,d,hat,rfl,by rw[if_neg h0],rfl,rfl⟩
    rw[hset]
    have:crashT s (i+1)=⟨(crashT s (i+1)).l,s.order⟩:=rfl
    rw[this,hn]
    simp[crashD,crashT]
end Go.Proofs.YtmakdilmibjpbaaGreatDoor
