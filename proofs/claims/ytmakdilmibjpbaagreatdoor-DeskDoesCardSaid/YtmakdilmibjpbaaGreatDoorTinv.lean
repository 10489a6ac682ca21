/- Mail and posts: what they are in plain Lean, and how they lie. What a clerk answers, in plain Lean. No program in sight. A town, in plain Lean: what its steps come to. No program in sight. What holds of a town all along, in plain Lean. No program in sight. -/
import Derived.Test.YtmakdilmibjpbaaGreatDoorWants
import Derived.Test.YtmakdilmibjpbaaGreatDoorTwo
import Derived.Test.YtmakdilmibjpbaaGreatDoorKeeps
import Derived.Test.YtmakdilmibjpbaaGreatDoorBrokL
namespace Go.Proofs.YtmakdilmibjpbaaGreatDoor
open Go Go.RowKit
set_option linter.unusedVariables false
def sendL (l:List Mail)(m:Mail):List Mail:=if l.length<40 then l++[m] else l
def takeM (l:List Mail)(n:Int):Option Mail:=l[rnd n l.length]?
def takeL (l:List Mail)(n:Int):List Mail:=l.take (rnd n l.length)++l.drop (rnd n l.length+1)
def dblOk (l:List Mail):Bool:=decide (0<l.length∧l.length<40)
def dblL (l:List Mail)(n:Int):List Mail:=match takeM l n with|some m=>sendL l m|none=>l
theorem takeM_nil (n:Int):takeM [] n=Option.none:=by simp[takeM]
theorem takeM_some{l:List Mail}(n:Int)(h:0<l.length):∃ m,takeM l n=some m:=getlt (rnd_lt h)
theorem takeL_nil (n:Int):takeL [] n=[]:=by simp[takeL]
theorem sendL_le{l:List Mail}{m:Mail}(h:l.length≤40):(sendL l m).length≤40:=by
  unfold sendL;split
  · simp;omega
  · exact h
theorem takeL_le{l:List Mail}{n:Int}(h:l.length≤40):(takeL l n).length≤40:=by
  simp[takeL];omega
theorem take_none{l:List Mail}{n:Int}(h:l.length=0):takeM l n=Option.none∧takeL l n=l:=by
  have:=List.eq_nil_of_length_eq_zero h;subst this;exact⟨takeM_nil n,takeL_nil n⟩
theorem dbl_none{l:List Mail}{n:Int}(h:l.length=0):dblL l n=l∧dblOk l=false:=by
  have:=List.eq_nil_of_length_eq_zero h;subst this;exact⟨by simp[dblL,takeM_nil],rfl⟩
theorem dbl_some{l:List Mail}{n:Int}{m:Mail}(h:takeM l n=some m)(h0:0<l.length):dblL l n=sendL l m∧dblOk l=decide (l.length<40):=by
  refine⟨by simp[dblL,h],?_⟩
  simp[dblOk,h0]
theorem at_neg{L:Nat}{n:Int}:((if L=0 then (-1:Int) else (rnd n L:Int))<0)↔L=0:=by
  by_cases h:L=0<;>simp[h]<;>omega
theorem at_nn{L:Nat}{n:Int}:((0:Int)≤(if L=0 then (-1:Int) else (rnd n L:Int)))↔0<L:=by
  by_cases h:L=0<;>simp[h]<;>omega
def postP (b:Nat)(l:List Mail):HP:=exS fun pv=>[blk b [pv] 121,sl pv 139 6 (l.map rM)]
variable{H R R1:List HP}{b:Nat}{pv:Value}{l:List Mail}{rows:List (List Value)}
theorem postP_close [s:SelB H b [pv] 121 R][t:SelS R pv 139 6 rows R1](e:rows=l.map rM):Ent H (postP b l::R1):=
  Ent.tr (Ent.tr s.ent (Ent.mono (e▸t.ent))) (Ent.ex (L:=fun pv=>[blk b [pv] 121,sl pv 139 6 (l.map rM)]) pv)
theorem postP_nil [s:SelB H b [.slice Option.none 0 0] 121 R]:Ent H (postP b []::R):=
  Ent.tr (Ent.tr s.ent (Ent.mono Ent.slN)) (Ent.ex (L:=fun pv=>[blk b [pv] 121,sl pv 139 6 (([]:List Mail).map rM)]) _)
end Go.Proofs.YtmakdilmibjpbaaGreatDoor
namespace Go.Proofs.YtmakdilmibjpbaaGreatDoor
open Go Go.RowKit
set_option linter.unusedVariables false
set_option linter.unusedSimpArgs false
def Mail.z0:Mail:=⟨0,0,0,0,0,false⟩
def ansK (k:KeepS)(m:Mail):KeepS×Option Mail:=
  if m.shop≠k.no then (k,none)
  else if m.kind=1 then ((doK k ⟨1,m.deal,m.ctr,m.dl,false⟩).1,some {m with kind:=2,yes:=decide ((doK k ⟨1,m.deal,m.ctr,m.dl,false⟩).2=0)})
  else if m.kind=3 then ((doK k ⟨2,m.deal,0,0,m.yes⟩).1,if (doK k ⟨2,m.deal,0,0,m.yes⟩).2=0 then some {m with kind:=4} else none)
  else (k,none)
theorem ansK_kind{k:KeepS}{m x:Mail}(h:(ansK k m).2=some x):x.kind=2∨x.kind=4:=by
  unfold ansK at h
  split at h
  · cases h
  · split at h
    · cases h;exact .inl rfl
    · split at h
      · dsimp only at h;split at h
        · cases h;exact .inr rfl
        · cases h
      · cases h
theorem ansK_1{k:KeepS}{m:Mail}(h:m.shop≠k.no):ansK k m=(k,none):=by unfold ansK;rw[if_pos h]
theorem ansK_2{k:KeepS}{m:Mail}(h:¬ m.shop≠k.no)(hk:m.kind=1):ansK k m=((doK k ⟨1,m.deal,m.ctr,m.dl,false⟩).1,some {m with kind:=2,yes:=decide ((doK k ⟨1,m.deal,m.ctr,m.dl,false⟩).2=0)}):=by
  unfold ansK;rw[if_neg h,if_pos hk]
theorem ansK_3{k:KeepS}{m:Mail}(h:¬ m.shop≠k.no)(h1:¬ m.kind=1)(hk:m.kind=3)(h0:¬ (doK k ⟨2,m.deal,0,0,m.yes⟩).2=0):ansK k m=((doK k ⟨2,m.deal,0,0,m.yes⟩).1,none):=by
  unfold ansK;rw[if_neg h,if_neg h1,if_pos hk,if_neg h0]
theorem ansK_4{k:KeepS}{m:Mail}(h:¬ m.shop≠k.no)(h1:¬ m.kind=1)(hk:m.kind=3)(h0:(doK k ⟨2,m.deal,0,0,m.yes⟩).2=0):ansK k m=((doK k ⟨2,m.deal,0,0,m.yes⟩).1,some {m with kind:=4}):=by
  unfold ansK;rw[if_neg h,if_neg h1,if_pos hk,if_pos h0]
theorem ansK_5{k:KeepS}{m:Mail}(h:¬ m.shop≠k.no)(h1:¬ m.kind=1)(hk:¬ m.kind=3):ansK k m=(k,none):=by
  unfold ansK;rw[if_neg h,if_neg h1,if_neg hk]
end Go.Proofs.YtmakdilmibjpbaaGreatDoor
namespace Go.Proofs.YtmakdilmibjpbaaGreatDoor
open Go Go.RowKit
set_option linter.unusedVariables false
set_option linter.unusedSimpArgs false
structure TownS where
  b:BrokS
  ws:List Int
  ks:List KeepS
  post:List Mail
def newT (ws:List Int):Option TownS:=match newK 0 ws,newK 1 ws,newK 2 ws with
  | some a,some b,some c=>some ⟨⟨[],[]⟩,ws,[a,b,c],[]⟩
  | _,_,_=>none
def deliverT (t:TownS)(n:Int):TownS×Int:=match takeM t.post n with
  | none=>(t,7)
  | some m=>
    if m.kind=2∨m.kind=4 then ({t with post:=takeL t.post n,b:=hearB t.b m},0)
    else if m.shop<0 then ({t with post:=takeL t.post n},0)
    else match t.ks[m.shop.toNat]? with
      | none=>({t with post:=takeL t.post n},0)
      | some k=>({t with ks:=t.ks.set m.shop.toNat (ansK k m).1,post:=match (ansK k m).2 with|some x=>sendL (takeL t.post n) x|none=>takeL t.post n},0)
def tickT (t:TownS):TownS:={t with post:=(dueB t.b).foldl sendL t.post}
structure StepS where
  kind:Int
  n:Int
  wants:List Want
def stepT (t:TownS)(x:StepS):TownS×Int:=
  if x.kind=1 then ({t with b:=(beginB t.b x.wants).1},(beginB t.b x.wants).2.2)
  else if x.kind=2 then (tickT t,0)
  else if x.kind=3 then deliverT t x.n
  else if x.kind=4 then (if (takeM t.post x.n).isSome then ({t with post:=takeL t.post x.n},0) else (t,7))
  else if x.kind=5 then (if t.post.length=0 then (t,7) else if dblOk t.post then ({t with post:=dblL t.post x.n},0) else (t,6))
  else if x.kind=6 then ({t with b:=(quitB t.b x.n).1},(quitB t.b x.n).2)
  else if x.kind=7 then (if x.n<0∨3≤x.n then (t,1) else match t.ks[x.n.toNat]? with|none=>(t,1)|some k=>({t with ks:=t.ks.set x.n.toNat (crashK k)},0))
  else if x.kind=8 then ({t with b:=crashB t.b},0)
  else (t,10)
def wgt (m:Mail):Nat:=if m.kind=2∨m.kind=4 then 1 else 2
def wgtL:List Mail→Nat
  | []=>0
  | m::l=>wgt m+wgtL l
theorem wgtL_app (a b:List Mail):wgtL (a++b)=wgtL a+wgtL b:=by
  induction a with
  | nil=>simp[wgtL]
  | cons m a ih=>simp only[List.cons_append,wgtL,ih];omega
theorem wgtL_send (l:List Mail)(m:Mail):wgtL (sendL l m)≤wgtL l+wgt m:=by
  unfold sendL;split
  · rw[wgtL_app];simp[wgtL]
  · omega
theorem wgtL_take{l:List Mail}{n:Int}{m:Mail}(h:takeM l n=some m):wgtL (takeL l n)+wgt m=wgtL l:=by
  unfold takeM at h
  unfold takeL
  generalize rnd n l.length=i at h
  have:l=l.take i++m::l.drop (i+1):=by
    obtain⟨hi,e⟩:=List.getElem?_eq_some_iff.1 h
    rw[← e,← List.drop_eq_getElem_cons hi,List.take_append_drop]
  conv=>rhs;rw[this]
  rw[wgtL_app,wgtL_app];simp only[wgtL];omega
theorem deliver_wgt{t:TownS}{n:Int}{m:Mail}(h:takeM t.post n=some m):wgtL (deliverT t n).1.post<wgtL t.post:=by
  have h1:=wgtL_take h
  unfold deliverT;rw[h];dsimp only
  have hw:1≤wgt m:=by unfold wgt;split<;>omega
  split
  · dsimp only;omega
  · rename_i hk
    have hw:wgt m=2:=by unfold wgt;rw[if_neg hk]
    split
    · dsimp only;omega
    · split
      · dsimp only;omega
      · rename_i k hk
        dsimp only
        split
        · rename_i x hx
          have:=wgtL_send (takeL t.post n) x
          have hx:wgt x=1:=by unfold wgt;rw[if_pos (ansK_kind hx)]
          omega
        · omega
theorem takeM_some'{l:List Mail}(n:Int)(h:0<l.length):∃ m,takeM l n=some m:=⟨_,List.getElem?_eq_getElem (rnd_lt h)⟩
def drainT (t:TownS):TownS:=if h:0<t.post.length then drainT (deliverT t 0).1 else t
termination_by wgtL t.post
decreasing_by obtain⟨m,hm⟩:=takeM_some' (l:=t.post) 0 h;exact deliver_wgt hm
def calmN:Nat→Int→TownS→TownS×Int
  | 0,n,t=>(t,n)
  | k+1,n,t=>if (dueB (drainT t).b).length=0 then (drainT t,n) else calmN k (n+1) (tickT (drainT t))
def calmT (t:TownS):TownS×Int:=calmN 20 0 t
def worldT (t:TownS):List Int:=t.ks.flatMap fun k=>[k.shop.c0.v,k.shop.c1.v]
def serialL (b:BrokS):List Int→List Int→List Int×Int
  | ws,[]=>(ws,0)
  | ws,n::l=>if (applyL ws (wantsB b n)).2.code≠0 then (z6,(applyL ws (wantsB b n)).2.code) else serialL b (applyL ws (wantsB b n)).1 l
def serialT (t:TownS):List Int×Int:=serialL t.b t.ws t.b.order
end Go.Proofs.YtmakdilmibjpbaaGreatDoor
namespace Go.Proofs.YtmakdilmibjpbaaGreatDoor
open Go Go.RowKit
set_option linter.unusedVariables false
set_option linter.unusedSimpArgs false
def pendH (b:BrokS)(c:Int):List Hld→Int
  | []=>0
  | h::l=>(if h.ctr=c∧stateB b h.deal=1 then h.dl else 0)+pendH b c l
theorem pendH_bound (b:BrokS)(c:Int):∀ l:List Hld,-outH c l≤pendH b c l∧pendH b c l≤inH c l
  | []=>by simp[pendH,outH,inH]
  | h::l=>by
    have:=pendH_bound b c l
    simp only[pendH,outH,inH]
    by_cases h1:h.ctr=c
    · by_cases h2:stateB b h.deal=1
      · by_cases h3:h.dl<0<;>simp only[h1,h2,h3,true_and,if_true,if_false,not_true_eq_false,not_false_eq_true]<;>omega
      · by_cases h3:h.dl<0<;>simp only[h1,h2,h3,true_and,and_false,if_true,if_false,not_true_eq_false,not_false_eq_true]<;>omega
    · simp only[h1,false_and,if_false];omega
theorem pendH_app (b:BrokS)(c:Int)(l k:List Hld):pendH b c (l++k)=pendH b c l+pendH b c k:=by
  induction l with
  | nil=>simp[pendH]
  | cons x l ih=>simp only[List.cons_append,pendH,ih];omega
theorem pendH_rest1 (b:BrokS)(c d:Int)(hs:stateB b d=1):∀ l:List Hld,pendH b c (restH d l)+sumH c d l=pendH b c l
  | []=>by simp[pendH,restH,sumH]
  | h::l=>by
    have ih:=pendH_rest1 b c d hs l
    by_cases hd:h.deal=d
    · have hr:restH d (h::l)=restH d l:=by simp[restH,hd]
      rw[hr];simp only[pendH,sumH,hd,hs,and_true];omega
    · have hr:restH d (h::l)=h::restH d l:=by simp[restH,hd]
      rw[hr];simp only[pendH,sumH,hd,and_false,if_false];omega
theorem pendH_rest2 (b:BrokS)(c d:Int)(hs:stateB b d≠1):∀ l:List Hld,pendH b c (restH d l)=pendH b c l
  | []=>by simp[pendH,restH]
  | h::l=>by
    have ih:=pendH_rest2 b c d hs l
    by_cases hd:h.deal=d
    · have hr:restH d (h::l)=restH d l:=by simp[restH,hd]
      rw[hr];simp only[pendH,hd,hs,and_false,if_false];omega
    · have hr:restH d (h::l)=h::restH d l:=by simp[restH,hd]
      rw[hr];simp only[pendH];omega
theorem pendH_same{b b':BrokS}(c:Int):∀ l:List Hld,(∀ h∈l,stateB b' h.deal=1↔stateB b h.deal=1)→pendH b' c l=pendH b c l
  | [],_=>rfl
  | h::l,hh=>by
    have ih:=pendH_same (b:=b) (b':=b') c l (fun x hx=>hh x (by simp[hx]))
    simp only[pendH,ih,hh h (by simp)]
theorem pendH_dec{b b':BrokS}(c n:Int)(h0:stateB b n≠1)(h1:stateB b' n=1)(hs:∀ m,m≠n→stateB b' m=stateB b m):∀ l:List Hld,pendH b' c l=pendH b c l+sumH c n l
  | []=>by simp[pendH,sumH]
  | h::l=>by
    have ih:=pendH_dec (b:=b) (b':=b') c n h0 h1 hs l
    simp only[pendH,sumH,ih]
    by_cases hd:h.deal=n
    · simp only[hd,h1,h0,and_true,and_false,if_false];omega
    · simp only[hs _ hd,hd,and_false,if_false];omega
theorem sumH_add{c n:Int}{l:List Hld}(hp:l.Pairwise fun x y=>¬ sameK x y):∀ {ws:List Want},(ws.map (·.ctr)).Nodup→(∀ h∈l,h.deal=n→h.ctr=c→(⟨h.ctr,h.dl⟩:Want)∈ws)→(∀ w∈ws,w.ctr=c→(⟨n,w.ctr,w.dl⟩:Hld)∈l)→sumH c n l=addOf ws c:=by
  intro ws hw h1 h2
  have none':∀ l:List Hld,(∀ h∈l,¬ (h.ctr=c∧h.deal=n))→sumH c n l=0:=by
    intro l hl
    induction l with
    | nil=>rfl
    | cons x l ih=>simp only[sumH];rw[if_neg (hl x (by simp)),ih (fun y hy=>hl y (by simp[hy]))];rfl
  have one:∀ (l:List Hld) (x:Hld),l.Pairwise (fun x y=>¬ sameK x y)→x∈l→x.ctr=c→x.deal=n→sumH c n l=x.dl:=by
    intro l x hpl hx e1 e2
    induction l with
    | nil=>cases hx
    | cons y l ih=>
      rw[List.pairwise_cons] at hpl
      simp only[sumH]
      rcases List.mem_cons.1 hx with rfl|hx
      · rw[if_pos ⟨e1,e2⟩,none' l (fun z hz hc=>hpl.1 z hz ⟨by rw[e2,hc.2],by rw[e1,hc.1]⟩)];omega
      · rw[if_neg (fun hc=>hpl.1 x hx ⟨by rw[hc.2,e2],by rw[hc.1,e1]⟩),ih hpl.2 hx];omega
  have oneW:∀ (ws:List Want) (w:Want),(ws.map (·.ctr)).Nodup→w∈ws→w.ctr=c→addOf ws c=w.dl:=by
    intro ws w hn hw e
    induction ws with
    | nil=>cases hw
    | cons y ws ih=>
      simp only[List.map_cons,List.nodup_cons] at hn
      rw[addOf_cons]
      rcases List.mem_cons.1 hw with rfl|hw
      · rw[if_pos e,addOf_none (fun z hz hc=>hn.1 (List.mem_map.2 ⟨z,hz,by rw[hc,e]⟩))];omega
      · rw[if_neg (fun hc=>hn.1 (List.mem_map.2 ⟨w,hw,by rw[hc,e]⟩)),ih hn.2 hw];omega
  by_cases hex:∃ h∈l,h.ctr=c∧h.deal=n
  · obtain⟨h,hm,e1,e2⟩:=hex
    rw[one l h hp hm e1 e2]
    have:=h1 h hm e2 e1
    exact (oneW ws _ hw this e1).symm
  · rw[none' l (fun h hm hc=>hex ⟨h,hm,hc⟩)]
    rw[addOf_none]
    intro w hw' e
    exact hex ⟨_,h2 w hw' e,e,rfl⟩
def valS (s:ShopS)(c:Int):Int:=if c % 2=0 then s.c0.v else s.c1.v
def wp (t:TownS)(c:Nat):Int:=match t.ks[c / 2]? with
  | none=>0
  | some k=>valS k.shop c+pendH t.b c k.shop.holds
def HeldT (t:TownS)(n:Int)(w:Want):Prop:=∃ k,t.ks[(shopOf w.ctr).toNat]?=some k∧(⟨n,w.ctr,w.dl⟩:Hld)∈k.shop.holds
def OverT (t:TownS)(n s:Int):Prop:=∃ k,t.ks[s.toNat]?=some k∧(overL k.shop.over n).isSome=true
def decd (b:BrokS)(n:Int):Prop:=stateB b n=1∨stateB b n=2
inductive MOk (t:TownS) (m:Mail):Prop
  | ask (k:m.kind=1) (w:(⟨m.ctr,m.dl⟩:Want)∈wantsB t.b m.deal) (s:m.shop=shopOf m.ctr)
  | say (k:m.kind=2) (w:(⟨m.ctr,m.dl⟩:Want)∈wantsB t.b m.deal) (s:m.shop=shopOf m.ctr) (y:m.yes=true→stateB t.b m.deal=0→HeldT t m.deal ⟨m.ctr,m.dl⟩)
  | end' (k:m.kind=3) (s:m.shop∈shopsL (wantsB t.b m.deal)) (d:decd t.b m.deal) (y:m.yes=true↔stateB t.b m.deal=1)
  | over (k:m.kind=4) (s:m.shop∈shopsL (wantsB t.b m.deal)) (d:decd t.b m.deal) (o:OverT t m.deal m.shop)
structure TInv (t:TownS):Prop where
  b:BInv t.b
  len:t.ks.length=3
  k:∀ (s:Nat) k,t.ks[s]?=some k→KInv k∧k.no=(s:Int)∧k.ws=t.ws
  hin:∀ (s:Nat) k,t.ks[s]?=some k→∀ h∈k.shop.holds,(⟨h.ctr,h.dl⟩:Want)∈wantsB t.b h.deal
  ost:∀ (s:Nat) k,t.ks[s]?=some k→∀ n c,overL k.shop.over n=some c→decd t.b n∧(c=true↔stateB t.b n=1)
  yh:∀ (n:Nat) d,t.b.l[n]?=some d→d.state=0→∀ (i:Nat) w,d.yes[i]?=some true→d.wants[i]?=some w→HeldT t n w
  dh:∀ n,stateB t.b n=1→∀ w∈wantsB t.b n,HeldT t n w∨OverT t n (shopOf w.ctr)
  bo:∀ (n:Nat) d,t.b.l[n]?=some d→∀ s∈d.over,OverT t n s
  mail:∀ m∈t.post,MOk t m
  full:t.post.length≤40
  ws6:t.ws.length=6
  ser:serialT t=((List.range 6).map (wp t),0)
theorem BInv.wok{b:BrokS}(h:BInv b){n:Int}{w:Want}(hw:w∈wantsB b n):WantsOk (wantsB b n)∧0≤n∧n<8∧wantF w=0:=by
  obtain⟨m,d,e,hd,e1,_⟩:=wantsB_in hw
  have hk:=((checkL_ok _).1 (h.d d (List.mem_of_getElem? hd)).w).2.2
  have:=(List.getElem?_eq_some_iff.1 hd).1
  have:=h.len
  rw[e1] at hw ⊢
  exact⟨hk,by omega,by omega,hk.1 w hw⟩
theorem shopOf_rng{w:Want}(h:wantF w=0):0≤shopOf w.ctr∧shopOf w.ctr<3∧(w.ctr=2*shopOf w.ctr∨w.ctr=2*shopOf w.ctr+1):=by
  have:=want_ctr h rfl;omega
theorem serialL_same{b b':BrokS}:∀ (l:List Int) (ws:List Int),(∀ n∈l,wantsB b' n=wantsB b n)→serialL b' ws l=serialL b ws l
  | [],_,_=>rfl
  | n::l,ws,h=>by
    simp only[serialL,h n (by simp)]
    split
    · rfl
    · exact serialL_same l _ (fun m hm=>h m (by simp[hm]))
theorem serialL_app{b:BrokS}{n:Int}:∀ (l:List Int) (ws v:List Int),serialL b ws l=(v,0)→(applyL v (wantsB b n)).2.code=0→serialL b ws (l++[n])=((applyL v (wantsB b n)).1,0)
  | [],ws,v,h,h2=>by
    simp only[serialL,Prod.mk.injEq] at h
    rw[← h.1] at h2 ⊢
    simp only[List.nil_append,serialL,h2]
    simp
  | m::l,ws,v,h,h2=>by
    simp only[List.cons_append,serialL] at h ⊢
    split
    · rename_i h3
      rw[if_pos h3] at h
      simp only[Prod.mk.injEq] at h
      exact absurd h.2 h3
    · rename_i h3
      rw[if_neg h3] at h
      exact serialL_app l _ v h h2
theorem applyL_ok{ws:List Int}{l:List Want}(h6:ws.length=6)(hc:(checkL l).code=0):((applyL ws l).2.code=0↔FitsA ws l)∧(FitsA ws l→applyL ws l=(addL ws l,⟨0,0⟩))∧((applyL ws l).2.code≠0→(applyL ws l).1=z6):=by
  have hw:=((checkL_ok l).1 hc).2.2
  unfold applyL
  rw[if_neg (by omega)]
  exact goA_ok l ws 0 h6 hw
theorem list_set_get{α:Type}{l:List α}{i j:Nat}{a x:α}(h:(l.set i a)[j]?=some x):(j=i∧x=a)∨(j≠i∧l[j]?=some x):=by
  rw[List.getElem?_set] at h
  split at h
  · rename_i e;subst e
    split at h
    · cases h;exact .inl ⟨rfl,rfl⟩
    · cases h
  · rename_i e;exact .inr ⟨fun e'=>e e'.symm,h⟩
structure KStep (b:BrokS)(k k':KeepS):Prop where
  inv:KInv k'
  no:k'.no=k.no
  ws:k'.ws=k.ws
  ov:∀ n c,overL k.shop.over n=some c→overL k'.shop.over n=some c
  hm:∀ h∈k.shop.holds,h∈k'.shop.holds∨(overL k'.shop.over h.deal).isSome=true
  hin:∀ h∈k'.shop.holds,h∈k.shop.holds∨(⟨h.ctr,h.dl⟩:Want)∈wantsB b h.deal
  on:∀ n c,overL k'.shop.over n=some c→overL k.shop.over n=some c∨(decd b n∧(c=true↔stateB b n=1))
  wp:∀ c:Nat,c / 2=k.shop.no.toNat→valS k'.shop c+pendH b c k'.shop.holds=valS k.shop c+pendH b c k.shop.holds
theorem KStep.refl{b:BrokS}{k:KeepS}(h:KInv k):KStep b k k:=
  ⟨h,rfl,rfl,fun _ _ h=>h,fun _ h=>.inl h,fun _ h=>.inl h,fun _ _ h=>.inl h,fun _ _=>rfl⟩
theorem OverT.k{t:TownS}{i:Nat}{k k':KeepS}(hk:t.ks[i]?=some k)(hs:KStep t.b k k'){n s:Int}(h:OverT t n s):OverT {t with ks:=t.ks.set i k'} n s:=by
  obtain⟨q,h1,h2⟩:=h
  have hi:=(List.getElem?_eq_some_iff.1 hk).1
  by_cases e:s.toNat=i
  · subst e;rw[hk] at h1;cases h1
    obtain⟨c,hc⟩:=Option.isSome_iff_exists.1 h2
    exact⟨k',by simp[hi],by rw[hs.ov n c hc];rfl⟩
  · exact⟨q,by dsimp only;rw[List.getElem?_set_ne (fun h=>e h.symm)];exact h1,h2⟩
theorem HeldT.k {t : TownS} {i : Nat} {k k' : KeepS} (hk : t.ks[i]? = some k) (hs : KStep t.b k k') {n : Int} {w : Want} (h : HeldT t n w) :
    HeldT { t with ks := t.ks.set i k' } n w ∨ (OverT { t with ks := t.ks.set i k' } n (shopOf w.ctr) ∧ ∃ c, overL k'.shop.over n = some c) := by
  obtain⟨q,h1,h2⟩:=h
  have hi:=(List.getElem?_eq_some_iff.1 hk).1
  by_cases e:(shopOf w.ctr).toNat=i
  · rw[e,hk] at h1;cases h1
    rcases hs.hm _ h2 with h3|h3
    · exact .inl ⟨k',by rw[e];simp[hi],h3⟩
    · obtain⟨c,hc⟩:=Option.isSome_iff_exists.1 h3
      exact .inr ⟨⟨k',by rw[e];simp[hi],h3⟩,c,hc⟩
  · exact .inl ⟨q,by dsimp only;rw[List.getElem?_set_ne (fun h=>e h.symm)];exact h1,h2⟩
theorem MOk.k{t:TownS}{i:Nat}{k k':KeepS}(hI:TInv t)(hk:t.ks[i]?=some k)(hs:KStep t.b k k'){m:Mail}(h:MOk t m):MOk {t with ks:=t.ks.set i k'} m:=by
  cases h with
  | ask a b c=>exact .ask a b c
  | say a b c d=>
    refine .say a b c fun hy h0=>?_
    rcases (d hy h0).k hk hs with h|⟨_,c,hc⟩
    · exact h
    · exfalso
      have h0:stateB t.b m.deal=0:=h0
      rcases hs.on _ _ hc with h1|⟨h1,_⟩
      · have:=(hI.ost i k hk _ _ h1).1
        rcases this with h|h<;>omega
      · rcases h1 with h|h<;>omega
  | end' a b c d=>exact .end' a b c d
  | over a b c d=>exact .over a b c (d.k hk hs)
theorem TInv.kstep{t:TownS}(hI:TInv t){i:Nat}{k k':KeepS}(hk:t.ks[i]?=some k)(hs:KStep t.b k k'):TInv {t with ks:=t.ks.set i k'}:=by
  obtain⟨k1,k2,k3⟩:=hI.k i k hk
  have hi:=(List.getElem?_eq_some_iff.1 hk).1
  have hno:k.shop.no=(i:Int):=k1.no.trans k2
  refine⟨hI.b,by simpa using hI.len,fun s q hq=>?_,fun s q hq h hh=>?_,fun s q hq n c hc=>?_,fun n d hd h0 j w hy hw=>?_,fun n hn w hw=>?_,fun n d hd s hs'=>(hI.bo n d hd s hs').k hk hs,fun m hm=>(hI.mail m hm).k hI hk hs,hI.full,hI.ws6,?_⟩
  · rcases list_set_get hq with ⟨rfl,rfl⟩|⟨_,hq⟩
    · exact⟨hs.inv,hs.no.trans k2,hs.ws.trans k3⟩
    · exact hI.k s q hq
  · rcases list_set_get hq with ⟨rfl,rfl⟩|⟨_,hq⟩
    · rcases hs.hin h hh with h1|h1
      · exact hI.hin s k hk h h1
      · exact h1
    · exact hI.hin s q hq h hh
  · rcases list_set_get hq with ⟨rfl,rfl⟩|⟨_,hq⟩
    · rcases hs.on n c hc with h1|h1
      · exact hI.ost s k hk n c h1
      · exact h1
    · exact hI.ost s q hq n c hc
  · rcases (hI.yh n d hd h0 j w hy hw).k hk hs with h|⟨_,c,hc⟩
    · exact h
    · exfalso
      have e:stateB t.b (n:Int)=d.state:=stateB_at hd
      rcases hs.on _ _ hc with h1|⟨h1,_⟩
      · have:=(hI.ost i k hk _ _ h1).1
        rcases this with h|h<;>omega
      · rcases h1 with h|h<;>omega
  · rcases hI.dh n hn w hw with h|h
    · rcases h.k hk hs with h|⟨h,_⟩
      · exact .inl h
      · exact .inr h
    · exact .inr (h.k hk hs)
  · show serialT t=_
    rw[hI.ser]
    congr 1
    refine List.map_congr_left fun c hc=>?_
    unfold wp
    dsimp only
    by_cases e:c / 2=i
    · rw[e,hk,List.getElem?_set_self hi]
      dsimp only
      exact (hs.wp c (by rw[hno];simpa using e)).symm
    · rw[List.getElem?_set_ne (fun h=>e h.symm)]
theorem doK_shop (k:KeepS)(r:Rec):(doK k r).1.shop=(doC k.shop r).1∧(doK k r).2=(doC k.shop r).2∧(doK k r).1.no=k.no∧(doK k r).1.ws=k.ws:=⟨rfl,rfl,rfl,rfl⟩
theorem doK_hold (k:KeepS)(n c d:Int):(doK k ⟨1,n,c,d,false⟩).1.shop=(holdS k.shop n ⟨c,d⟩).1∧(doK k ⟨1,n,c,d,false⟩).2=(holdS k.shop n ⟨c,d⟩).2:=by
  have e:doC k.shop ⟨1,n,c,d,false⟩=holdS k.shop n ⟨c,d⟩:=by
    unfold doC;rw[if_neg (by simp[recF])];unfold doR;rw[if_pos rfl]
  exact⟨by rw[(doK_shop _ _).1,e],by rw[(doK_shop _ _).2.1,e]⟩
theorem doK_end (k:KeepS)(n:Int)(b:Bool):(doK k ⟨2,n,0,0,b⟩).1.shop=(endS k.shop n b).1∧(doK k ⟨2,n,0,0,b⟩).2=(endS k.shop n b).2:=by
  have e:doC k.shop ⟨2,n,0,0,b⟩=endS k.shop n b:=by
    unfold doC;rw[if_neg (by simp[recF])];unfold doR;rw[if_neg (by simp),if_pos rfl]
  exact⟨by rw[(doK_shop _ _).1,e],by rw[(doK_shop _ _).2.1,e]⟩
theorem TInv.asked {t : TownS} (hI : TInv t) {i : Nat} {k : KeepS} (hk : t.ks[i]? = some k) {n : Int} {w : Want} (hw : w ∈ wantsB t.b n) (hs : shopOf w.ctr = (i : Int)) :
    KStep t.b k (doK k ⟨1, n, w.ctr, w.dl, false⟩).1 ∧ ((doK k ⟨1, n, w.ctr, w.dl, false⟩).2 = 0 → (⟨n, w.ctr, w.dl⟩ : Hld) ∈ (doK k ⟨1, n, w.ctr, w.dl, false⟩).1.shop.holds) := by
  obtain⟨k1,k2,k3⟩:=hI.k i k hk
  obtain⟨e1,e2⟩:=doK_hold k n w.ctr w.dl
  have hinv:=k1.step ⟨1,n,w.ctr,w.dl,false⟩
  rcases holdS_cases k.shop n w with ⟨h1,h2⟩|⟨h1,d0,d8,hwf,hsh,ho,hc⟩
  · refine⟨⟨hinv,rfl,rfl,fun a c h=>?_,fun h hh=>.inl ?_,fun h hh=>.inl ?_,fun a c h=>.inl ?_,fun c _=>?_⟩,fun h=>?_⟩
    · rw[e1,h2];exact h
    · rw[e1,h2];exact hh
    · rw[e1,h2] at hh;exact hh
    · rw[e1,h2] at h;exact h
    · rw[e1,h2]
    · rw[e2] at h;exact absurd h h1
  · rcases hc with ⟨hin,h2⟩|⟨hn,hok,h2⟩
    · refine⟨⟨hinv,rfl,rfl,fun a c h=>?_,fun h hh=>.inl ?_,fun h hh=>.inl ?_,fun a c h=>.inl ?_,fun c _=>?_⟩,fun h=>?_⟩
      · rw[e1,h2];exact h
      · rw[e1,h2];exact hh
      · rw[e1,h2] at hh;exact hh
      · rw[e1,h2] at h;exact h
      · rw[e1,h2]
      · rw[e1,h2];exact hin
    · have q2:(doK k ⟨1,n,w.ctr,w.dl,false⟩).1.shop.over=k.shop.over:=by rw[e1,h2];exact ShopS.set_over _ _ _
      have q3:(doK k ⟨1,n,w.ctr,w.dl,false⟩).1.shop.holds=k.shop.holds++[⟨n,w.ctr,w.dl⟩]:=by rw[e1,h2]
      have hst:stateB t.b n≠1:=fun h1=>by
        rcases hI.dh n h1 w hw with ⟨q,hq,hm⟩|⟨q,hq,hm⟩
        · rw[hs] at hq
          simp only[Int.toNat_natCast] at hq
          rw[hk] at hq;cases hq
          exact hn _ hm ⟨rfl,rfl⟩
        · rw[hs] at hq
          simp only[Int.toNat_natCast] at hq
          rw[hk] at hq;cases hq
          rw[ho] at hm;cases hm
      refine⟨⟨hinv,rfl,rfl,fun a c h=>?_,fun h hh=>.inl ?_,fun h hh=>?_,fun a c h=>.inl ?_,fun c _=>?_⟩,fun _=>?_⟩
      · rw[q2];exact h
      · rw[q3];exact List.mem_append_left _ hh
      · rw[q3] at hh
        rcases List.mem_append.1 hh with hh|hh
        · exact .inl hh
        · simp at hh;subst hh;exact .inr hw
      · rw[q2] at h;exact h
      · rw[q3,pendH_app]
        simp only[pendH]
        rw[if_neg (fun h=>hst h.2)]
        have:valS (doK k ⟨1,n,w.ctr,w.dl,false⟩).1.shop c=valS k.shop c:=by
          rw[e1,h2]
          have hv:∀ x:Cnt,(hold x w.dl).2=0→(hold x w.dl).1.v=x.v:=fun x hx=>by
            rcases (hold_ok hx).2.2 with ⟨_,_,e⟩|⟨_,_,e⟩<;>rw[e]
          unfold valS ShopS.set
          unfold ShopS.cnt at hok
          by_cases e:w.ctr % 2=0
          · rw[if_pos e] at hok
            simp only[e,if_true];unfold ShopS.cnt;simp only[e,if_true];rw[hv _ hok]
          · rw[if_neg e] at hok
            simp only[e,if_false];unfold ShopS.cnt;simp only[e,if_false];rw[hv _ hok]
        rw[this];omega
      · rw[q3];simp
theorem TInv.ended {t : TownS} (hI : TInv t) {i : Nat} {k : KeepS} (hk : t.ks[i]? = some k) {n : Int} {b : Bool} (hd : decd t.b n) (hb : b = true ↔ stateB t.b n = 1) :
    KStep t.b k (doK k ⟨2, n, 0, 0, b⟩).1 ∧ (doK k ⟨2, n, 0, 0, b⟩).2 = 0 ∧ (overL (doK k ⟨2, n, 0, 0, b⟩).1.shop.over n).isSome = true := by
  obtain⟨k1,k2,k3⟩:=hI.k i k hk
  obtain⟨e1,e2⟩:=doK_end k n b
  have hinv:=k1.step ⟨2,n,0,0,b⟩
  have hrng:0≤n∧n<8:=by
    have:=hI.b.len
    rcases hI.b.st n with ⟨h,_⟩|⟨h1,h2,_⟩
    · rcases hd with h'|h'<;>omega
    · omega
  rcases endS_cases k.shop n b with ⟨h2,h3,h4⟩|⟨d0,d8,ho,h2⟩
  · -- it is over: told the same
    have hov:overL k.shop.over n=some b:=by
      rcases h4 with h4|h4|⟨_,h4⟩
      · exact (h3.1 h4).2.2
      · exfalso
        unfold endS at h4 h2
        rw[if_neg (by omega)] at h4
        split at h4
        · dsimp only at h4;split at h4<;>omega
        · cases h4
      · exfalso
        have:=(hI.ost i k hk _ _ h4).2
        cases b<;>simp_all
    have h0:(endS k.shop n b).2=0:=h3.2 ⟨hrng.1,hrng.2,hov⟩
    refine⟨⟨hinv,rfl,rfl,fun a c h=>?_,fun h hh=>.inl ?_,fun h hh=>.inl ?_,fun a c h=>.inl ?_,fun c _=>?_⟩,e2.trans h0,?_⟩
    · rw[e1,h2];exact h
    · rw[e1,h2];exact hh
    · rw[e1,h2] at hh;exact hh
    · rw[e1,h2] at h;exact h
    · rw[e1,h2]
    · rw[e1,h2,hov];rfl
  · obtain⟨_,q0,q1,q3,q2,q4,q5⟩:=k1.sh.end' (b:=b) d0 d8 ho
    rw[← e1] at q1 q2 q3 q4 q5
    have hno:k.shop.no=(i:Int):=k1.no.trans k2
    refine⟨⟨hinv,rfl,rfl,fun a c h=>?_,fun h hh=>?_,fun h hh=>.inl ?_,fun a c h=>?_,fun c hc=>?_⟩,e2.trans q0,?_⟩
    · rw[q2,overL_app,h]
    · by_cases e:h.deal=n
      · refine .inr ?_
        rw[q2,overL_app];split
        · rfl
        · simp[e]
      · refine .inl ?_
        rw[q3];simp[restH,hh,e]
    · rw[q3] at hh;exact (List.mem_filter.1 hh).1
    · rw[q2,overL_app] at h
      split at h
      · rename_i c' hc';cases h;exact .inl hc'
      · dsimp only at h
        split at h
        · rename_i e;cases h;subst e;exact .inr ⟨hd,hb⟩
        · cases h
    · rw[q3]
      have hv:valS (doK k ⟨2,n,0,0,b⟩).1.shop c=valS k.shop c+(if b then sumH c n k.shop.holds else 0):=by
        unfold valS
        by_cases e:(c:Int) % 2=0
        · rw[if_pos e,if_pos e,q4,show 2*k.shop.no=(c:Int) by omega]
        · rw[if_neg e,if_neg e,q5,show 2*k.shop.no+1=(c:Int) by omega]
      rw[hv]
      cases b with
      | true=>
        have:=pendH_rest1 t.b c n (hb.1 rfl) k.shop.holds
        simp only[if_true];omega
      | false=>
        have:stateB t.b n≠1:=fun h=>by have:=hb.2 h;cases this
        rw[pendH_rest2 t.b c n this];simp
    · rw[q2,overL_app];split
      · rfl
      · simp
structure BStep (t:TownS)(b':BrokS):Prop where
  inv:BInv b'
  st:∀ n,decd t.b n→stateB b' n=stateB t.b n
  w:∀ n w,w∈wantsB t.b n→wantsB b' n=wantsB t.b n
  one:∀ n,stateB b' n=1→stateB t.b n=1∨∀ w∈wantsB b' n,HeldT t n w
  yh:∀ (n:Nat) d,b'.l[n]?=some d→d.state=0→∀ (i:Nat) w,d.yes[i]?=some true→d.wants[i]?=some w→HeldT t n w
  bo:∀ (n:Nat) d,b'.l[n]?=some d→∀ s∈d.over,OverT t n s
theorem BStep.z{t:TownS}{b':BrokS}(hI:TInv t)(h:BStep t b'){n:Int}{w:Want}(hw:w∈wantsB t.b n)(h0:stateB b' n=0):stateB t.b n=0:=by
  obtain⟨m,d,e,hd,_,hs⟩:=wantsB_in hw
  have:=(hI.b.d d (List.mem_of_getElem? hd)).st
  rw[hs]
  rcases this with h1|h1|h1
  · exact h1
  · have:=h.st n (.inl (by rw[hs,h1]));omega
  · have:=h.st n (.inr (by rw[hs,h1]));omega
theorem BStep.dec{t:TownS}{b':BrokS}(h:BStep t b'){n:Int}(hd:decd t.b n):decd b' n:=by
  rcases hd with h1|h1
  · exact .inl ((h.st n (.inl h1)).trans h1)
  · exact .inr ((h.st n (.inr h1)).trans h1)
theorem TInv.bstep{t:TownS}(hI:TInv t){b':BrokS}(h:BStep t b')(hser:serialL b' t.ws b'.order=((List.range 6).map (wp {t with b:=b'}),0)):TInv {t with b:=b'}:=by
  refine⟨h.inv,hI.len,hI.k,fun s k hk x hx=>?_,fun s k hk n c hc=>?_,h.yh,fun n hn w hw=>?_,h.bo,fun m hm=>?_,hI.full,hI.ws6,hser⟩
  · have:=hI.hin s k hk x hx
    show _∈wantsB b' _
    rw[h.w _ _ this];exact this
  · obtain⟨h1,h2⟩:=hI.ost s k hk n c hc
    refine⟨h.dec h1,?_⟩
    show _↔stateB b' n=1
    rw[h.st n h1];exact h2
  · rcases h.one n hn with h1|h1
    · have hw' : w ∈ wantsB t.b n := by
        cases hl : wantsB t.b n with
        | nil =>
          exfalso
          obtain ⟨d, hd, e⟩ := stateB_in (b := t.b) (n := n) (by
            rcases hI.b.st n with ⟨q, _⟩ | q
            · omega
            · exact q.1) (by
            rcases hI.b.st n with ⟨q, _⟩ | q
            · omega
            · exact q.2.1)
          have hk := ((checkL_ok _).1 (hI.b.d d (List.mem_of_getElem? hd)).w).1
          unfold wantsB at hl
          split at hl
          · rcases hI.b.st n with ⟨q, _⟩ | q <;> omega
          · rw [hd] at hl; dsimp only at hl; rw [hl] at hk; simp at hk
        | cons a l =>
          have := h.w n a (by rw [hl]; simp)
          have hw : w ∈ wantsB b' n := hw
          rw [this, hl] at hw
          exact hw
      exact hI.dh n h1 w hw'
    · exact .inl (h1 w hw)
  · cases hI.mail m hm with
    | ask a w c=>exact .ask a (by show _∈wantsB b' _;rw[h.w _ _ w];exact w) c
    | say a w c d=>exact .say a (by show _∈wantsB b' _;rw[h.w _ _ w];exact w) c fun hy h0=>d hy (h.z hI w h0)
    | end' a s d y=>
      obtain⟨_,x,hx,_⟩:=mem_shopsL.1 s
      refine .end' a (by show _∈shopsL (wantsB b' _);rw[h.w _ _ hx];exact s) (h.dec d) ?_
      show _↔stateB b' _=1
      rw[h.st _ d];exact y
    | over a s d o=>
      obtain⟨_,x,hx,_⟩:=mem_shopsL.1 s
      exact .over a (by show _∈shopsL (wantsB b' _);rw[h.w _ _ hx];exact s) (h.dec d) o
theorem TInv.ord_w{t:TownS}(hI:TInv t){n:Int}(h:n∈t.b.order):∃ w,w∈wantsB t.b n:=by
  have h1:=(hI.b.ord n).1 h
  rcases hI.b.st n with ⟨q,_⟩|⟨q1,q2,_⟩
  · omega
  · obtain⟨d,hd,e⟩:=stateB_in (b:=t.b) q1 q2
    have hk:=((checkL_ok _).1 (hI.b.d d (List.mem_of_getElem? hd)).w).1
    unfold wantsB
    rw[if_neg (by omega),hd]
    exact⟨d.wants[0],List.getElem_mem _⟩
theorem TInv.ser_same{t:TownS}(hI:TInv t){b':BrokS}(h:BStep t b')(ho:b'.order=t.b.order)(h1:∀ n,stateB b' n=1→stateB t.b n=1):serialL b' t.ws b'.order=((List.range 6).map (wp {t with b:=b'}),0):=by
  rw[ho,serialL_same (b:=t.b) _ _ (fun n hn=>by obtain⟨w,hw⟩:=hI.ord_w hn;exact h.w n w hw)]
  refine (show serialT t=_ from hI.ser).trans ?_
  congr 1
  refine List.map_congr_left fun c hc=>?_
  unfold wp
  dsimp only
  split
  · rfl
  · rename_i k hk
    rw[pendH_same (b:=t.b) (b':=b') _ _ fun x hx=>⟨h1 _,fun e=>(h.st _ (.inl e)).trans e⟩]
theorem TInv.ser_done {t : TownS} (hI : TInv t) {b' : BrokS} (h : BStep t b') {n : Int} (ho : b'.order = t.b.order ++ [n]) (hn : stateB t.b n ≠ 1) (h1 : stateB b' n = 1) (hs : ∀ m, m ≠ n → stateB b' m = stateB t.b m) (hw : wantsB b' n = wantsB t.b n) (hc : (checkL (wantsB b' n)).code = 0) :
    serialL b' t.ws b'.order = ((List.range 6).map (wp { t with b := b' }), 0) := by
  have hheld:∀ w∈wantsB b' n,HeldT t n w:=by
    rcases h.one n h1 with h2|h2
    · exact absurd h2 hn
    · exact h2
  have hser:serialL b' t.ws t.b.order=((List.range 6).map (wp t),0):=by
    rw[serialL_same (b:=t.b) _ _ (fun n hn=>by obtain⟨w,hw⟩:=hI.ord_w hn;exact h.w n w hw)]
    exact hI.ser
  have hwok:=((checkL_ok _).1 hc).2.2
  have hnew:∀ c,c<6→∃ k,t.ks[c / 2]?=some k∧wp t c=valS k.shop c+pendH t.b c k.shop.holds∧wp {t with b:=b'} c=valS k.shop c+pendH b' c k.shop.holds∧wp {t with b:=b'} c=wp t c+addOf (wantsB b' n) c∧0≤wp t c∧wp t c≤100∧0≤wp {t with b:=b'} c∧wp {t with b:=b'} c≤100:=by
    intro c hc6
    have hlt:c / 2<t.ks.length:=by have:=hI.len;omega
    obtain⟨k1,k2,k3⟩:=hI.k (c / 2) t.ks[c / 2] (List.getElem?_eq_getElem hlt)
    generalize hkk:t.ks[c / 2]=k at k1 k2 k3
    have hk:t.ks[c / 2]?=some k:=by rw[List.getElem?_eq_getElem hlt,hkk]
    have hno:k.shop.no=((c / 2:Nat):Int):=k1.no.trans k2
    have w1:wp t c=valS k.shop c+pendH t.b c k.shop.holds:=by unfold wp;rw[hk]
    have w2:wp {t with b:=b'} c=valS k.shop c+pendH b' c k.shop.holds:=by unfold wp;dsimp only;rw[hk]
    have e1:=pendH_dec (b:=t.b) (b':=b') c n hn h1 hs k.shop.holds
    have e2:sumH c n k.shop.holds=addOf (wantsB b' n) c:=sumH_add k1.sh.pw hwok.2 (fun x hx hd hcx=>by
      have:=hI.hin _ k hk x hx
      rw[hd,← hw] at this;exact this) (fun w hwm hwc=>by
      obtain⟨q,hq,hm⟩:=hheld w hwm
      have hr:=shopOf_rng (hwok.1 w hwm)
      rw[show (shopOf w.ctr).toNat=c / 2 by omega,hk] at hq
      cases hq;exact hm)
    have p1:=pendH_bound t.b c k.shop.holds
    have p2:=pendH_bound b' c k.shop.holds
    have c0:=chk_ok k1.sh.k0;have c1:=chk_ok k1.sh.k1
    have hb:0≤valS k.shop c - outH c k.shop.holds∧valS k.shop c+inH c k.shop.holds≤100:=by
      unfold valS
      by_cases e:(c:Int) % 2=0
      · rw[if_pos e]
        have a:=k1.sh.o0;have b:=k1.sh.i0
        rw[show 2*k.shop.no=(c:Int) by omega] at a b
        omega
      · rw[if_neg e]
        have a:=k1.sh.o1;have b:=k1.sh.i1
        rw[show 2*k.shop.no+1=(c:Int) by omega] at a b
        omega
    exact⟨k,hk,w1,w2,by omega,by omega,by omega,by omega,by omega⟩
  have hget:∀ (f:Nat→Int) c,c<6→((List.range 6).map f).getD c 0=f c:=fun f c hc=>by
    rw[List.getD_eq_getElem?_getD,List.getElem?_map,List.getElem?_range hc];rfl
  have hfit:FitsA ((List.range 6).map (wp t)) (wantsB b' n):=by
    intro w hwm
    have hr:=shopOf_rng (hwok.1 w hwm)
    have hk:=wantF_ok (hwok.1 w hwm)
    have hc6:w.ctr.toNat<6:=by omega
    rw[hget _ _ hc6]
    obtain⟨k,_,_,_,e,b1,b2,b3,b4⟩:=hnew w.ctr.toNat hc6
    have ha:addOf (wantsB b' n) (w.ctr.toNat:Int)=w.dl:=by
      have hnd:=hwok.2
      generalize wantsB b' n=l at hwm hnd
      induction l with
      | nil=>cases hwm
      | cons y ws ih=>
        simp only[List.map_cons,List.nodup_cons] at hnd
        rw[addOf_cons]
        rcases List.mem_cons.1 hwm with rfl|hwm
        · rw[if_pos (by omega),addOf_none (fun z hz hc=>hnd.1 (List.mem_map.2 ⟨z,hz,by omega⟩))];omega
        · rw[if_neg (fun hc=>hnd.1 (List.mem_map.2 ⟨w,hwm,by omega⟩)),ih hwm hnd.2];omega
    rw[ha] at e
    omega
  have hap:=applyL_ok (ws:=(List.range 6).map (wp t)) (by simp) hc
  rw[ho,serialL_app _ _ _ hser (hap.1.2 hfit),hap.2.1 hfit]
  congr 1
  unfold addL
  refine List.map_congr_left fun c hc=>?_
  have hc6:c<6:=by simpa using hc
  rw[hget _ _ hc6]
  obtain⟨k,_,_,_,e,_⟩:=hnew c hc6
  exact e.symm
theorem TInv.bset {t : TownS} (hI : TInv t) {n : Nat} {d d' : Deal} (hd : t.b.l[n]? = some d) (hinv : BInv ⟨t.b.l.set n d', t.b.order⟩) (hw : d'.wants = d.wants) (hst : d'.state = d.state ∨ (d.state = 0 ∧ d'.state = 2))
    (hy : d'.state = 0 → ∀ (i : Nat) w, d'.yes[i]? = some true → d'.wants[i]? = some w → HeldT t n w) (ho : ∀ s ∈ d'.over, OverT t n s) : TInv { t with b := ⟨t.b.l.set n d', t.b.order⟩ } := by
  have hn:=(List.getElem?_eq_some_iff.1 hd).1
  have hs0:=stateB_at hd
  have hst':∀ m,stateB ⟨t.b.l.set n d',t.b.order⟩ m=if m=n then d'.state else stateB t.b m:=fun m=>stateB_set hn m
  have hwant:∀ m w,w∈wantsB t.b m→wantsB ⟨t.b.l.set n d',t.b.order⟩ m=wantsB t.b m:=fun m w _=>wantsB_set hd hw m
  have hone:∀ m,stateB ⟨t.b.l.set n d',t.b.order⟩ m=1→stateB t.b m=1:=fun m h1=>by
    rw[hst'] at h1
    split at h1
    · rename_i e;subst e
      rw[hs0];rcases hst with h|⟨_,h⟩<;>omega
    · exact h1
  have hb:BStep t ⟨t.b.l.set n d',t.b.order⟩:=by
    refine⟨hinv,fun m hm=>?_,hwant,fun m h1=>.inl (hone m h1),fun m q hq h0 i w h1 h2=>?_,fun m q hq s hs=>?_⟩
    · rw[hst']
      split
      · rename_i e;subst e
        rcases hm with hm|hm<;>rw[hs0] at hm<;>rcases hst with h|⟨h,_⟩<;>omega
      · rfl
    · rcases list_set_get hq with ⟨rfl,rfl⟩|⟨_,hq⟩
      · exact hy h0 i w h1 h2
      · exact hI.yh m q hq h0 i w h1 h2
    · rcases list_set_get hq with ⟨rfl,rfl⟩|⟨_,hq⟩
      · exact ho s hs
      · exact hI.bo m q hq s hs
  exact hI.bstep hb (hI.ser_same hb rfl hone)
theorem TInv.quit{t:TownS}(hI:TInv t)(n:Int):TInv {t with b:=(quitB t.b n).1}:=by
  have hq:=hI.b.quit n
  unfold quitB at hq ⊢
  split
  · exact hI
  · split
    · rename_i h1 h2
      rw[if_neg h1,if_pos h2] at hq
      rcases hI.b.st n with ⟨e,_⟩|⟨n0,nl,_⟩
      · omega
      · obtain⟨d,hd,e⟩:=stateB_in (b:=t.b) n0 nl
        have e2:decideB t.b n.toNat 2=⟨t.b.l.set n.toNat {d with state:=2},t.b.order⟩:=by
          unfold decideB;rw[hd];dsimp only;rw[if_neg (by omega)];simp
        rw[e2] at hq ⊢
        exact hI.bset hd hq rfl (.inr ⟨by omega,rfl⟩) (fun h=>by cases h) (fun s hs=>hI.bo _ _ hd s hs)
    · exact hI
theorem TInv.begin{t:TownS}(hI:TInv t)(l:List Want):TInv {t with b:=(beginB t.b l).1}:=by
  have hq:=hI.b.begin l
  unfold beginB at hq ⊢
  split
  · exact hI
  · rename_i hc
    split
    · exact hI
    · rename_i h8
      rw[if_neg hc,if_neg h8] at hq
      dsimp only at hq ⊢
      have hl:t.b.l.length≤8:=hI.b.len
      have hget:∀ (m:Nat),m<t.b.l.length→(t.b.l++[(⟨l,0,noYes l,[]⟩:Deal)])[m]?=t.b.l[m]?:=fun m hm=>List.getElem?_append_left hm
      have hst:∀ m,stateB ⟨t.b.l++[⟨l,0,noYes l,[]⟩],t.b.order⟩ m=stateB t.b m∨(stateB ⟨t.b.l++[⟨l,0,noYes l,[]⟩],t.b.order⟩ m=0∧stateB t.b m=-1):=fun m=>by
        rcases hI.b.st m with ⟨e,e2⟩|⟨m0,ml,_⟩
        · rw[e]
          by_cases e3:m=t.b.l.length
          · refine .inr ⟨?_,rfl⟩
            have hx:(t.b.l++[(⟨l,0,noYes l,[]⟩:Deal)])[t.b.l.length]?=some ⟨l,0,noYes l,[]⟩:=by simp
            rw[e3];exact stateB_at (b:=⟨t.b.l++[⟨l,0,noYes l,[]⟩],t.b.order⟩) hx
          · refine .inl (stateB_out ?_)
            simp only[List.length_append,List.length_cons,List.length_nil]
            omega
        · refine .inl ?_
          unfold stateB
          rw[if_neg (by omega),if_neg (by omega)]
          dsimp only
          rw[hget _ (by omega)]
      have hone:∀ m,stateB ⟨t.b.l++[⟨l,0,noYes l,[]⟩],t.b.order⟩ m=1→stateB t.b m=1:=fun m h1=>by
        rcases hst m with h|⟨h,_⟩<;>omega
      have hcase:∀ (m:Nat) d,(t.b.l++[(⟨l,0,noYes l,[]⟩:Deal)])[m]?=some d→t.b.l[m]?=some d∨d=⟨l,0,noYes l,[]⟩:=fun m d h=>by
        rcases Nat.lt_or_ge m t.b.l.length with h1|h1
        · rw[hget m h1] at h;exact .inl h
        · rw[List.getElem?_append_right h1] at h
          have:=List.mem_of_getElem? h
          simp at this
          exact .inr this
      have hb:BStep t ⟨t.b.l++[⟨l,0,noYes l,[]⟩],t.b.order⟩:=by
        refine⟨hq,fun m hm=>?_,fun m w hw=>?_,fun m h1=>.inl (hone m h1),fun m d hd h0 i w h1 h2=>?_,fun m d hd s hs=>?_⟩
        · rcases hst m with h|⟨_,h⟩
          · exact h
          · rcases hm with hm|hm<;>omega
        · obtain⟨q,d,e,hd,_⟩:=wantsB_in hw
          have:=(List.getElem?_eq_some_iff.1 hd).1
          unfold wantsB
          rw[if_neg (by omega),if_neg (by omega)]
          dsimp only
          rw[hget _ (by omega)]
        · rcases hcase m d hd with hd|rfl
          · exact hI.yh m d hd h0 i w h1 h2
          · simp[noYes,List.getElem?_replicate] at h1
        · rcases hcase m d hd with hd|rfl
          · exact hI.bo m d hd s hs
          · cases hs
      exact hI.bstep hb (hI.ser_same hb rfl hone)
theorem TInv.crash{t:TownS}(hI:TInv t):TInv {t with b:=crashB t.b}:=by
  have hone:∀ m,stateB (crashB t.b) m=1→stateB t.b m=1:=fun m h1=>by
    rw[stateB_crash] at h1;split at h1<;>omega
  have hb:BStep t (crashB t.b):=by
    refine⟨hI.b.crash,fun m hm=>?_,fun m w _=>?_,fun m h1=>.inl (hone m h1),fun m d hd h0=>?_,fun m d hd s hs=>?_⟩
    · rw[stateB_crash,if_neg (by rcases hm with h|h<;>omega)]
    · unfold wantsB crashB
      dsimp only
      split
      · rfl
      · rw[List.getElem?_map]
        cases t.b.l[m.toNat]?<;>rfl
    · exfalso
      unfold crashB at hd
      dsimp only at hd
      rw[List.getElem?_map] at hd
      cases hq:t.b.l[m]? with
      | none=>rw[hq] at hd;cases hd
      | some q=>
        rw[hq] at hd;cases hd
        unfold crashD at h0;dsimp only at h0
        split at h0
        · cases h0
        · rename_i h1;exact h1 h0
    · unfold crashB at hd
      dsimp only at hd
      rw[List.getElem?_map] at hd
      cases hq:t.b.l[m]? with
      | none=>rw[hq] at hd;cases hd
      | some q=>rw[hq] at hd;cases hd;cases hs
  exact hI.bstep hb (hI.ser_same hb rfl hone)
theorem getsetb{l:List Bool}{i j:Nat}(h:(l.set i true)[j]?=some true):j=i∨l[j]?=some true:=by
  rcases list_set_get h with ⟨h,_⟩|⟨_,h⟩
  · exact .inl h
  · exact .inr h
theorem TInv.hear{t:TownS}(hI:TInv t){m:Mail}(hm:MOk t m):TInv {t with b:=hearB t.b m}:=by
  have hq:=hI.b.hear m
  unfold hearB at hq ⊢
  split
  · exact hI
  · rename_i hn0
    split
    · exact hI
    · rename_i d hd
      have hn:((m.deal.toNat:Nat):Int)=m.deal:=by omega
      have hlt:=(List.getElem?_eq_some_iff.1 hd).1
      rw[if_neg hn0,hd] at hq
      dsimp only at hq
      split
      · rename_i hk2
        rw[if_pos hk2] at hq
        split
        · exact hI
        · rename_i i hi
          rw[hi] at hq
          dsimp only at hq
          obtain⟨hwi,_⟩:=atW_some hi
          split
          · exact hI
          · rename_i hs
            have hs:shopOf m.ctr=m.shop∧d.state=0:=by omega
            rw[if_neg (by omega)] at hq
            split
            · rename_i hy
              rw[if_pos hy] at hq
              have e2:decideB t.b m.deal.toNat 2=⟨t.b.l.set m.deal.toNat {d with state:=2},t.b.order⟩:=by
                unfold decideB;rw[hd];dsimp only;rw[if_neg (by omega)];simp
              rw[e2] at hq ⊢
              exact hI.bset hd hq rfl (.inr ⟨hs.2,rfl⟩) (fun h=>by cases h) (fun s hs=>hI.bo _ _ hd s hs)
            · rename_i hy
              have hy':m.yes=true:=by simpa using hy
              rw[if_neg hy] at hq
              have hheld:HeldT t m.deal ⟨m.ctr,m.dl⟩:=by
                cases hm with
                | say _ _ _ y=>exact y hy' (by rw[← hn,stateB_at hd];exact hs.2)
                | ask k=>omega
                | end' k=>omega
                | over k=>omega
              have hyes:∀ (j:Nat) w,(d.yes.set i true)[j]?=some true→d.wants[j]?=some w→HeldT t m.deal w:=fun j w h1 h2=>by
                rcases getsetb h1 with rfl|h1
                · rw[hwi] at h2;cases h2;exact hheld
                · rw[← hn];exact hI.yh _ _ hd hs.2 j w h1 h2
              split
              · rename_i hc
                rw[if_pos hc] at hq
                exact hI.bset hd hq rfl (.inl rfl) (fun _ j w h1 h2=>by rw[hn];exact hyes j w h1 h2) (fun s hs=>hI.bo _ _ hd s hs)
              · rename_i hc
                rw[if_neg hc] at hq
                have e:decideB (setD t.b m.deal.toNat {d with yes:=d.yes.set i true}) m.deal.toNat 1=⟨t.b.l.set m.deal.toNat {d with yes:=d.yes.set i true,state:=1},t.b.order++[m.deal]⟩:=by
                  unfold decideB setD
                  dsimp only
                  rw[List.getElem?_set_self hlt]
                  dsimp only
                  rw[if_neg (by omega)];simp[hn]
                rw[e] at hq ⊢
                have hst':∀ q,stateB ⟨t.b.l.set m.deal.toNat {d with yes:=d.yes.set i true,state:=1},t.b.order++[m.deal]⟩ q=if q=m.deal then 1 else stateB t.b q:=fun q=>by
                  rw[stateB_set hlt,hn]
                have hwant:∀ q,wantsB ⟨t.b.l.set m.deal.toNat {d with yes:=d.yes.set i true,state:=1},t.b.order++[m.deal]⟩ q=wantsB t.b q:=fun q=>wantsB_set (d':={d with yes:=d.yes.set i true,state:=1}) hd rfl q
                have hwd:wantsB t.b m.deal=d.wants:=by rw[← hn];exact wantsB_at hd
                have hdk:=hI.b.d d (List.mem_of_getElem? hd)
                have hst0:stateB t.b m.deal=0:=by rw[← hn,stateB_at hd];exact hs.2
                have hb:BStep t ⟨t.b.l.set m.deal.toNat {d with yes:=d.yes.set i true,state:=1},t.b.order++[m.deal]⟩:=by
                  refine⟨hq,fun q hqq=>?_,fun q w _=>hwant q,fun q h1=>?_,fun q x hx h0 j w h1 h2=>?_,fun q x hx s hs'=>?_⟩
                  · rw[hst']
                    split
                    · rename_i e;subst e;rcases hqq with h|h<;>omega
                    · rfl
                  · rw[hst'] at h1
                    split at h1
                    · rename_i e;subst e
                      refine .inr fun w hw=>?_
                      rw[hwant,hwd] at hw
                      obtain⟨j,hj,e⟩:=List.mem_iff_getElem.1 hw
                      refine hyes j w ?_ (by rw[List.getElem?_eq_getElem hj,e])
                      have hjl:j<(d.yes.set i true).length:=by rw[List.length_set,hdk.y];exact hj
                      rw[List.getElem?_eq_getElem hjl]
                      have:(d.yes.set i true)[j]≠false:=fun hf=>hc (by
                        rw[List.contains_iff_mem,← hf];exact List.getElem_mem _)
                      simpa using this
                    · exact .inl h1
                  · rcases list_set_get hx with ⟨rfl,rfl⟩|⟨_,hx⟩
                    · cases h0
                    · exact hI.yh q x hx h0 j w h1 h2
                  · rcases list_set_get hx with ⟨rfl,rfl⟩|⟨_,hx⟩
                    · exact hI.bo _ _ hd s hs'
                    · exact hI.bo q x hx s hs'
                exact hI.bstep hb (hI.ser_done hb rfl (by omega) (by rw[hst',if_pos rfl]) (fun q hne=>by rw[hst',if_neg hne]) (hwant _) (by rw[hwant,hwd];exact hdk.w))
      · rename_i hk2
        rw[if_neg hk2] at hq
        split
        · rename_i hk4
          rw[if_pos hk4] at hq
          split
          · rename_i hc
            rw[if_pos hc] at hq
            refine hI.bset hd hq rfl (.inl rfl) (fun h=>absurd h hc.1) (fun s hs=>?_)
            rcases List.mem_append.1 hs with hs|hs
            · exact hI.bo _ _ hd s hs
            · simp at hs;subst hs
              rw[hn]
              cases hm with
              | over _ _ _ o=>exact o
              | ask k=>omega
              | end' k=>omega
              | say k=>omega
          · exact hI
        · exact hI
theorem TInv.post'{t:TownS}(hI:TInv t){p:List Mail}(hp:∀ m∈p,MOk t m)(hl:p.length≤40):TInv {t with post:=p}:=
  ⟨hI.b,hI.len,hI.k,hI.hin,hI.ost,hI.yh,hI.dh,hI.bo,fun m hm=>by
    cases hp m hm with
    | ask a b c=>exact .ask a b c
    | say a b c d=>exact .say a b c d
    | end' a b c d=>exact .end' a b c d
    | over a b c d=>exact .over a b c d,hl,hI.ws6,hI.ser⟩
theorem take_mem{l:List Mail}{n:Int}{m:Mail}(h:m∈takeL l n):m∈l:=by
  unfold takeL at h
  rcases List.mem_append.1 h with h|h
  · exact List.mem_of_mem_take h
  · exact List.mem_of_mem_drop h
theorem takeL_le'{l:List Mail}{n:Int}:(takeL l n).length≤l.length:=by
  simp[takeL];omega
theorem send_mem{l:List Mail}{m x:Mail}(h:x∈sendL l m):x∈l∨x=m:=by
  unfold sendL at h
  split at h
  · rcases List.mem_append.1 h with h|h
    · exact .inl h
    · simp at h;exact .inr h
  · exact .inl h
theorem sendL_le'{l:List Mail}{m:Mail}(h:l.length≤40):(sendL l m).length≤40:=by
  unfold sendL;split
  · simp;omega
  · exact h
theorem TInv.answer {t : TownS} (hI : TInv t) {m : Mail} (hm : MOk t m) {k : KeepS} (hk : t.ks[m.shop.toNat]? = some k) (h0 : 0 ≤ m.shop) (hkind : ¬(m.kind = 2 ∨ m.kind = 4)) :
    TInv { t with ks := t.ks.set m.shop.toNat (ansK k m).1 } ∧ ∃ x, (ansK k m).2 = some x ∧ MOk { t with ks := t.ks.set m.shop.toNat (ansK k m).1 } x ∧
      ((m.kind = 1 ∧ x = { m with kind := 2, yes := x.yes }) ∨ (m.kind = 3 ∧ x = { m with kind := 4 })) ∧ KStep t.b k (ansK k m).1 := by
  have hs:((m.shop.toNat:Nat):Int)=m.shop:=by omega
  have hno:k.no=m.shop:=by have:=(hI.k _ k hk).2.1;omega
  have hlt:=(List.getElem?_eq_some_iff.1 hk).1
  cases hm with
  | ask kk w s=>
    have e:ansK k m=((doK k ⟨1,m.deal,m.ctr,m.dl,false⟩).1,some {m with kind:=2,yes:=decide ((doK k ⟨1,m.deal,m.ctr,m.dl,false⟩).2=0)}):=by
      unfold ansK;rw[if_neg (by omega),if_pos kk]
    obtain⟨a1,a2⟩:=hI.asked hk w (by show shopOf m.ctr=_;omega)
    rw[e]
    refine⟨hI.kstep hk a1,_,rfl,.say rfl w s fun hy _=>?_,.inl ⟨kk,rfl⟩,a1⟩
    have hy:(doK k ⟨1,m.deal,m.ctr,m.dl,false⟩).2=0:=by simpa using hy
    refine⟨(doK k ⟨1,m.deal,m.ctr,m.dl,false⟩).1,?_,a2 hy⟩
    show (t.ks.set m.shop.toNat _)[(shopOf m.ctr).toNat]?=_
    rw[← s,List.getElem?_set_self hlt]
  | end' kk s d y=>
    obtain⟨a1,a2,a3⟩:=hI.ended (b:=m.yes) hk d y
    have e:ansK k m=((doK k ⟨2,m.deal,0,0,m.yes⟩).1,some {m with kind:=4}):=by
      unfold ansK;rw[if_neg (by omega),if_neg (by omega),if_pos kk,if_pos a2]
    rw[e]
    refine⟨hI.kstep hk a1,_,rfl,.over rfl s d ?_,.inr ⟨kk,rfl⟩,a1⟩
    refine⟨(doK k ⟨2,m.deal,0,0,m.yes⟩).1,?_,a3⟩
    show (t.ks.set m.shop.toNat _)[m.shop.toNat]?=_
    rw[List.getElem?_set_self hlt]
  | say kk=>omega
  | over kk=>omega
theorem MOk.shop0{t:TownS}(hI:TInv t){m:Mail}(h:MOk t m):0≤m.shop∧m.shop<3:=by
  cases h with
  | ask a b c=>
    have:=shopOf_rng (hI.b.wok b).2.2.2
    dsimp only at this;omega
  | say a b c=>
    have:=shopOf_rng (hI.b.wok b).2.2.2
    dsimp only at this;omega
  | end' a b=>exact (mem_shopsL.1 b).1
  | over a b=>exact (mem_shopsL.1 b).1
theorem TInv.deliver{t:TownS}(hI:TInv t)(n:Int):TInv (deliverT t n).1:=by
  unfold deliverT
  split
  · exact hI
  · rename_i m hm
    have hmk:=hI.mail m (List.mem_of_getElem? hm)
    have hl:=hI.full
    have hp:∀ x∈takeL t.post n,MOk t x:=fun x hx=>hI.mail x (take_mem hx)
    have hpl:(takeL t.post n).length≤40:=Nat.le_trans takeL_le' hl
    obtain⟨s0,s3⟩:=hmk.shop0 hI
    split
    · have := (hI.post' hp hpl).hear (m := m) (by
        cases hmk with
        | ask a b c => exact .ask a b c
        | say a b c d => exact .say a b c d
        | end' a b c d => exact .end' a b c d
        | over a b c d => exact .over a b c d)
      exact this
    · rename_i hkind
      rw[if_neg (by omega)]
      split
      · exact hI.post' hp hpl
      · rename_i k hk
        obtain⟨a1,x,hx,a2,a3,a4⟩:=hI.answer hmk hk s0 hkind
        rw[hx]
        refine a1.post' (fun y hy=>?_) (sendL_le' hpl)
        rcases send_mem hy with hy|rfl
        · exact (hp y hy).k hI hk a4
        · exact a2
theorem TInv.due{t:TownS}(hI:TInv t){m:Mail}(h:m∈dueB t.b):MOk t m:=by
  obtain⟨n,d,hd,hm⟩:=dueB_mem.1 h
  have hw:=wantsB_at hd
  have hs:=stateB_at hd
  have hk:=(hI.b.d d (List.mem_of_getElem? hd)).st
  rcases dueD_mem hm with ⟨h0,s,hs',_,rfl⟩|⟨h0,w,hw',rfl⟩
  · refine .end' rfl (by rw[hw];exact hs') ?_ ?_
    · unfold decd;rw[hs];omega
    · show decide (d.state=1)=true↔_
      rw[hs];simp
  · exact .ask rfl (by rw[hw];exact hw') rfl
theorem foldl_send_mem:∀ {l p:List Mail} {x:Mail},x∈l.foldl sendL p→x∈p∨x∈l
  | [],_,_,h=>.inl h
  | m::l,p,x,h=>by
    rcases foldl_send_mem (l:=l) (p:=sendL p m) h with h|h
    · rcases send_mem h with h|rfl
      · exact .inl h
      · exact .inr (by simp)
    · exact .inr (by simp[h])
theorem foldl_send_le:∀ {l p:List Mail},p.length≤40→(l.foldl sendL p).length≤40
  | [],_,h=>h
  | m::l,p,h=>foldl_send_le (l:=l) (sendL_le' h)
theorem TInv.tick{t:TownS}(hI:TInv t):TInv (tickT t):=
  hI.post' (fun m hm=>by
    rcases foldl_send_mem hm with h|h
    · exact hI.mail m h
    · exact hI.due h) (foldl_send_le hI.full)
theorem TInv.step{t:TownS}(hI:TInv t)(x:StepS):TInv (stepT t x).1:=by
  unfold stepT
  split
  · exact hI.begin _
  · split
    · exact hI.tick
    · split
      · exact hI.deliver _
      · split
        · split
          · exact hI.post' (fun m hm=>hI.mail m (take_mem hm)) (Nat.le_trans takeL_le' hI.full)
          · exact hI
        · split
          · split
            · exact hI
            · split
              · refine hI.post' (fun m hm=>?_) ?_
                · unfold dblL at hm
                  split at hm
                  · rename_i q hq
                    rcases send_mem hm with h|rfl
                    · exact hI.mail m h
                    · exact hI.mail m (List.mem_of_getElem? hq)
                  · exact hI.mail m hm
                · unfold dblL;split
                  · exact sendL_le' hI.full
                  · exact hI.full
              · exact hI
          · split
            · exact hI.quit _
            · split
              · split
                · exact hI
                · split
                  · exact hI
                  · rename_i k hk
                    have hk1:=(hI.k _ k hk).1
                    rw[hk1.crash.1]
                    exact hI.kstep hk (.refl hk1)
              · split
                · exact hI.crash
                · exact hI
theorem TInv.new{ws:List Int}{t:TownS}(h6:ws.length=6)(h:newT ws=some t):TInv t∧t.ws=ws∧t.post=[]∧t.b.l=[]:=by
  unfold newT at h
  split at h
  · rename_i a b c ha hb hc
    cases h
    obtain⟨a1,a2,a3,a4,a5⟩:=KInv.new ha
    obtain⟨b1,b2,b3,b4,b5⟩:=KInv.new hb
    obtain⟨c1,c2,c3,c4,c5⟩:=KInv.new hc
    have a6:=newS_ok a5;have b6:=newS_ok b5;have c6:=newS_ok c5
    have hk:∀ (s:Nat) k,[a,b,c][s]?=some k→(s=0∧k=a)∨(s=1∧k=b)∨(s=2∧k=c):=fun s k hk=>by
      match s,hk with
      | 0,hk=>simp at hk;exact .inl ⟨rfl,hk.symm⟩
      | 1,hk=>simp at hk;exact .inr (.inl ⟨rfl,hk.symm⟩)
      | 2,hk=>simp at hk;exact .inr (.inr ⟨rfl,hk.symm⟩)
      | s+3,hk=>simp at hk
    refine⟨⟨.new,rfl,fun s k h=>?_,fun s k h x hx=>?_,fun s k h n q hq=>?_,fun n d hd=>(by cases hd),fun n hn=>?_,fun n d hd=>(by cases hd),fun m hm=>(by cases hm),by simp,h6,?_⟩,rfl,rfl,rfl⟩
    · rcases hk s k h with ⟨rfl,rfl⟩|⟨rfl,rfl⟩|⟨rfl,rfl⟩
      · exact⟨a1,a2,a3⟩
      · exact⟨b1,b2,b3⟩
      · exact⟨c1,c2,c3⟩
    · exfalso
      rcases hk s k h with ⟨rfl,rfl⟩|⟨rfl,rfl⟩|⟨rfl,rfl⟩
      · rw[a6.2.2.1] at hx;cases hx
      · rw[b6.2.2.1] at hx;cases hx
      · rw[c6.2.2.1] at hx;cases hx
    · exfalso
      rcases hk s k h with ⟨rfl,rfl⟩|⟨rfl,rfl⟩|⟨rfl,rfl⟩
      · rw[a6.2.2.2.1] at hq;cases hq
      · rw[b6.2.2.2.1] at hq;cases hq
      · rw[c6.2.2.2.1] at hq;cases hq
    · exfalso
      have hn:stateB ⟨[],[]⟩ n=1:=hn
      have:stateB ⟨[],[]⟩ n=-1:=stateB_out (by simp;omega)
      omega
    · show (ws,(0:Int))=_
      congr 1
      rw[list6 h6]
      refine List.map_congr_left fun c' hc'=>?_
      have hc':c'<6:=by simpa using hc'
      have e0:=a6.2.2.2.2;have e1:=b6.2.2.2.2;have e2:=c6.2.2.2.2
      have h0:=a6.2.2.1;have h1:=b6.2.2.1;have h2:=c6.2.2.1
      rcases (by omega:c'=0∨c'=1∨c'=2∨c'=3∨c'=4∨c'=5) with rfl|rfl|rfl|rfl|rfl|rfl<;>simp[wp,valS,h0,h1,h2,e0,e1,e2,pendH]
  · cases h
end Go.Proofs.YtmakdilmibjpbaaGreatDoor
