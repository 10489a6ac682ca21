/- Brokers: how they lie. Shops and booths: how they lie. Keepers: how they lie. Clerks: how they lie. Towns: how they lie. Desks: how they lie. -/
import Derived.Test.YtmakdilmibjpbaaGreatDoorElt
import Derived.Test.YtmakdilmibjpbaaGreatDoorFun
import Derived.Test.YtmakdilmibjpbaaGreatDoorBrokL
import Derived.Test.YtmakdilmibjpbaaGreatDoorPlanW
import Derived.Test.YtmakdilmibjpbaaGreatDoorShopL
import Derived.Test.YtmakdilmibjpbaaGreatDoorFacts
import Derived.Test.YtmakdilmibjpbaaGreatDoorTwo
import Derived.Test.YtmakdilmibjpbaaGreatDoorKeeps
import Derived.Test.YtmakdilmibjpbaaGreatDoorTinv
import Derived.Test.YtmakdilmibjpbaaGreatDoorLib
import Derived.Test.YtmakdilmibjpbaaGreatDoorBld
namespace Go.Proofs.YtmakdilmibjpbaaGreatDoor
open Go Go.RowKit
set_option linter.unusedVariables false
set_option maxRecDepth 20000
def rBo (b:Bool):List Value:=[.bool b]
def rPt (q:Nat):List Value:=[ptr q]
abbrev dlC (d:Deal)(wv yv tv:Value):List Value:=[wv,.int .i64 d.state,yv,tv]
abbrev dlL (q:Nat)(d:Deal)(wv yv tv:Value):List HP:=[blk q (dlC d wv yv tv) 169,sl wv 93 2 (d.wants.map rW),sl yv 4 1 (d.yes.map rBo),sl tv 3 1 (d.over.map rI)]
def dealP (q:Nat)(d:Deal):HP:=ex3 fun wv yv tv=>dlL q d wv yv tv
variable{H R R1 R2 R3:List HP}{b q:Nat}{d:Deal}{s:BrokS}
theorem dealP_close (wv yv tv:Value){cs:List Value}{r1 r2 r3:List (List Value)}[a:SelB H q cs 169 R][t:SelS R wv 93 2 r1 R1][u:SelS R1 yv 4 1 r2 R2][w:SelS R2 tv 3 1 r3 R3](e:cs=dlC d wv yv tv)(e1:r1=d.wants.map rW)(e2:r2=d.yes.map rBo)(e3:r3=d.over.map rI):Ent H (dealP q d::R3):=by
  subst e;subst e1;subst e2;subst e3
  exact Ent.tr (Ent.tr a.ent (Ent.mono (Ent.tr t.ent (Ent.mono (Ent.tr u.ent (Ent.mono w.ent)))))) (Ent.ex3 (L:=fun wv yv tv=>dlL q d wv yv tv) wv yv tv)
abbrev bkL (b:Nat)(s:BrokS)(dv ov:Value)(bs:List Nat):List HP:=[blk b [dv,ov] 119,sl dv 170 1 (bs.map rPt),sl ov 3 1 (s.order.map rI),manyP dealP bs s.l]
def brokP (b:Nat)(s:BrokS):HP:=fun h=>∃ dv ov bs,bs.length=s.l.length∧sep (bkL b s dv ov bs) h
theorem brokP_close (dv ov:Value)(bs:List Nat)(hl:bs.length=s.l.length){cs:List Value}{r1 r2:List (List Value)}[a:SelB H b cs 119 R][t:SelS R dv 170 1 r1 R1][u:SelS R1 ov 3 1 r2 R2][w:SelX R2 (manyP dealP bs s.l) R3](e:cs=[dv,ov])(e1:r1=bs.map rPt)(e2:r2=s.order.map rI):Ent H (brokP b s::R3):=by
  subst e;subst e1;subst e2
  refine Ent.tr (Ent.tr a.ent (Ent.mono (Ent.tr t.ent (Ent.mono (Ent.tr u.ent (Ent.mono w.ent)))))) (fun h hx=>?_)
  obtain⟨x,y,hx,hy,hd,e⟩:=sep_app (A:=bkL b s dv ov bs) hx
  exact⟨h,⟨x,y,⟨dv,ov,bs,hl,hx⟩,hy,hd,e⟩,Hp.sub_refl h⟩
section opening
variable{P:Program}{F:Exit→Act→World→Prop}{N:Nat}{M:Amb}{K:List KI}{env:Env}
theorem r_brok (h:∀ dv ov bs,bs.length=s.l.length→Run P F N M K env (bkL b s dv ov bs++R)):Run P F N M K env (brokP b s::R):=fun a w hf ho=>by
  obtain⟨hb,hs,g,⟨x,y,⟨dv,ov,bs,hl,hx⟩,hr,hd,e⟩,hh⟩:=ho
  subst e
  exact h dv ov bs hl a w hf ⟨hb,hs,_,sep_app' hx hr hd,hh⟩
theorem r_deal (i:Nat){bs:List Nat}{ds:List Deal}(h1:bs[i]?=some q)(h2:ds[i]?=some d)[t:SelX H (manyP dealP bs ds) R](h:Run P F N M K env (dealP q d::restP dealP bs ds i::R)):Run P F N M K env H:=r_ent (Ent.tr t.ent (many_out h1 h2)) h
end opening
end Go.Proofs.YtmakdilmibjpbaaGreatDoor
namespace Go.Proofs.YtmakdilmibjpbaaGreatDoor
open Go Go.RowKit
set_option linter.unusedVariables false
set_option maxRecDepth 20000
def rH (h:Hld):List Value:=[.int .i64 h.deal,.int .i64 h.ctr,.int .i64 h.dl]
def rO (o:Ovr):List Value:=[.int .i64 o.deal,.bool o.done]
abbrev shC (s:ShopS)(hv ov:Value):List Value:=[.int .i64 s.no,.int .i64 s.c0.v,.int .i64 s.c0.o,.int .i64 s.c0.i,.int .i64 s.c1.v,.int .i64 s.c1.o,.int .i64 s.c1.i,hv,ov]
abbrev shL (b:Nat)(s:ShopS)(hv ov:Value):List HP:=[blk b (shC s hv ov) 184,sl hv 116 3 (s.holds.map rH),sl ov 243 2 (s.over.map rO)]
def shopP (b:Nat)(s:ShopS):HP:=ex2 fun hv ov=>shL b s hv ov
variable{H R R1 R2:List HP}{b:Nat}{s:ShopS}
theorem shopP_close (hv ov:Value){cs:List Value}{r1 r2:List (List Value)}[a:SelB H b cs 184 R][t:SelS R hv 116 3 r1 R1][u:SelS R1 ov 243 2 r2 R2](e:cs=shC s hv ov)(e1:r1=s.holds.map rH)(e2:r2=s.over.map rO):Ent H (shopP b s::R2):=by
  subst e;subst e1;subst e2
  exact Ent.tr (Ent.tr a.ent (Ent.mono (Ent.tr t.ent (Ent.mono u.ent)))) (Ent.ex2 (L:=fun hv ov=>shL b s hv ov) hv ov)
theorem eq_Hold{m n:Hld}:EqT Tryz.prog 116 (rH m) (rH n) (decide (m=n)):=
  ⟨Tryz.eqGuardType116,fun w=>by
    obtain⟨a,b,c⟩:=m
    obtain⟨a',b',c'⟩:=n
    simp only[rH]
    rw[show (10000:Nat)=9998+1+1 from rfl,run_equalIn_agg w _ _ _ _ Tryz.underlying116 Tryz.stoodInHeld116]
    by_cases h1:a=a'<;>by_cases h2:b=b'<;>by_cases h3:c=c'<;>simp[Program.fieldsOf,Op.eqFields,part,run_equalIn_int w _ _ _ _ _ _ Tryz.underlying3,h1,h2,h3]⟩
end Go.Proofs.YtmakdilmibjpbaaGreatDoor
namespace Go.Proofs.YtmakdilmibjpbaaGreatDoor
open Go Go.RowKit
set_option linter.unusedVariables false
set_option maxRecDepth 20000
def rR (r:Rec):List Value:=[.int .i64 r.kind,.int .i64 r.deal,.int .i64 r.ctr,.int .i64 r.dl,.bool r.done]
abbrev w6 (ws:List Int):List Int:=[ws.getD 0 0,ws.getD 1 0,ws.getD 2 0,ws.getD 3 0,ws.getD 4 0,ws.getD 5 0]
theorem w6_eq{ws:List Int}(h:ws.length=6):w6 ws=ws:=by
  match ws,h with
  | [a,b,c,d,e,f],_=>rfl
theorem list6E{ws:List Int}(h:ws.length=6):∃ a b c d e f,ws=[a,b,c,d,e,f]:=by
  match ws,h with
  | [a,b,c,d,e,f],_=>exact⟨a,b,c,d,e,f,rfl⟩
abbrev kpC (k:KeepS)(sb:Nat)(lv:Value):List Value:=[ptr sb,.int .i64 k.no,.int .i64 (k.ws.getD 0 0),.int .i64 (k.ws.getD 1 0),.int .i64 (k.ws.getD 2 0),.int .i64 (k.ws.getD 3 0),.int .i64 (k.ws.getD 4 0),.int .i64 (k.ws.getD 5 0),lv]
abbrev kpL (b:Nat)(k:KeepS)(sb:Nat)(lv:Value):List HP:=[blk b (kpC k sb lv) 155,sl lv 181 5 (k.l.map rR),shopP sb k.shop]
def keepP (b:Nat)(k:KeepS):HP:=ex2 fun sb lv=>kpL b k sb lv
variable{H R R1 R2:List HP}{b:Nat}{k:KeepS}
theorem keepP_close (sb:Nat)(lv:Value){cs:List Value}{r1:List (List Value)}[a:SelB H b cs 155 R][t:SelS R lv 181 5 r1 R1][u:SelX R1 (shopP sb k.shop) R2](e:cs=kpC k sb lv)(e1:r1=k.l.map rR):Ent H (keepP b k::R2):=by
  subst e;subst e1
  exact Ent.tr (Ent.tr a.ent (Ent.mono (Ent.tr t.ent (Ent.mono u.ent)))) (Ent.ex2 (L:=fun sb lv=>kpL b k sb lv) sb lv)
theorem eq_Record{m n:Rec}:EqT Tryz.prog 181 (rR m) (rR n) (decide (m=n)):=
  ⟨Tryz.eqGuardType181,fun w=>by
    obtain⟨a,b,c,d,e⟩:=m
    obtain⟨a',b',c',d',e'⟩:=n
    simp only[rR]
    rw[show (10000:Nat)=9998+1+1 from rfl,run_equalIn_agg w _ _ _ _ Tryz.underlying181 Tryz.stoodInHeld181]
    have hb:∀ f f':Bool,(Op.equalIn 9999 4 (.bool f) (.bool f')).run Tryz.prog w=.ok (f==f') w:=fun f f'=>run_equalIn_bool' w 9998 4 f f' Tryz.underlying4
    by_cases h1:a=a'<;>by_cases h2:b=b'<;>by_cases h3:c=c'<;>by_cases h4:d=d'<;>by_cases h5:e=e'<;>simp[Program.fieldsOf,Op.eqFields,part,run_equalIn_int w _ _ _ _ _ _ Tryz.underlying3,h1,h2,h3,h4,h5,hb]⟩
end Go.Proofs.YtmakdilmibjpbaaGreatDoor
namespace Go.Proofs.YtmakdilmibjpbaaGreatDoor
open Go Go.RowKit
set_option linter.unusedVariables false
set_option maxRecDepth 20000
abbrev clL (b:Nat)(k:KeepS)(kb:Nat):List HP:=[blk b [ptr kb,.int .i64 k.no] 125,keepP kb k]
def clerkP (b:Nat)(k:KeepS):HP:=exS fun kb=>clL b k kb
variable{H R R1:List HP}{b:Nat}{k:KeepS}
theorem clerkP_close (kb:Nat){cs:List Value}[a:SelB H b cs 125 R][t:SelX R (keepP kb k) R1](e:cs=[ptr kb,.int .i64 k.no]):Ent H (clerkP b k::R1):=by
  subst e
  exact Ent.tr (Ent.tr a.ent (Ent.mono t.ent)) (Ent.ex (L:=fun kb=>clL b k kb) kb)
end Go.Proofs.YtmakdilmibjpbaaGreatDoor
namespace Go.Proofs.YtmakdilmibjpbaaGreatDoor
open Go Go.RowKit
set_option linter.unusedVariables false
set_option maxRecDepth 20000
abbrev tnC (bb:Nat)(ws:List Int)(c0 c1 c2 pb:Nat):List Value:=[ptr bb,.int .i64 (ws.getD 0 0),.int .i64 (ws.getD 1 0),.int .i64 (ws.getD 2 0),.int .i64 (ws.getD 3 0),.int .i64 (ws.getD 4 0),.int .i64 (ws.getD 5 0),ptr c0,ptr c1,ptr c2,ptr pb]
abbrev tnL (b:Nat)(t:TownS)(bb c0 c1 c2 pb:Nat):List HP:=[blk b (tnC bb t.ws c0 c1 c2 pb) 62,brokP bb t.b,manyP clerkP [c0,c1,c2] t.ks,postP pb t.post]
def townP (b:Nat)(t:TownS):HP:=fun h=>∃ bb c0 c1 c2 pb,sep (tnL b t bb c0 c1 c2 pb) h
variable{H R R1 R2 R3:List HP}{b:Nat}{t:TownS}
theorem townP_close (bb c0 c1 c2 pb:Nat){cs:List Value}[x:SelB H b cs 62 R][y:SelX R (brokP bb t.b) R1][z:SelX R1 (manyP clerkP [c0,c1,c2] t.ks) R2][w:SelX R2 (postP pb t.post) R3](e:cs=tnC bb t.ws c0 c1 c2 pb):Ent H (townP b t::R3):=by
  subst e
  refine Ent.tr (Ent.tr x.ent (Ent.mono (Ent.tr y.ent (Ent.mono (Ent.tr z.ent (Ent.mono w.ent)))))) (fun h hx=>?_)
  obtain⟨p,q,hp,hq,hd,e⟩:=sep_app (A:=tnL b t bb c0 c1 c2 pb) hx
  exact⟨h,⟨p,q,⟨bb,c0,c1,c2,pb,hp⟩,hq,hd,e⟩,Hp.sub_refl h⟩
theorem townP_open{M:Amb}{w:World}(ho:Own M (townP b t::R) w):∃ bb c0 c1 c2 pb,Own M (tnL b t bb c0 c1 c2 pb++R) w:=by
  obtain⟨hb,hs,g,⟨x,y,⟨bb,c0,c1,c2,pb,hx⟩,hr,hd,e⟩,hh⟩:=ho
  subst e
  exact⟨bb,c0,c1,c2,pb,hb,hs,_,sep_app' hx hr hd,hh⟩
section opening
variable{P:Program}{F:Exit→Act→World→Prop}{N:Nat}{M:Amb}{K:List KI}{env:Env}
theorem r_town (h:∀ bb c0 c1 c2 pb,Run P F N M K env (tnL b t bb c0 c1 c2 pb++R)):Run P F N M K env (townP b t::R):=fun a w hf ho=>by
  obtain⟨bb,c0,c1,c2,pb,ho'⟩:=townP_open ho
  exact h bb c0 c1 c2 pb a w hf ho'
end opening
def cAt (c0 c1 c2 s:Nat):Nat:=if s=0 then c0 else if s=1 then c1 else c2
theorem lt3{s:Nat}(h:s<3):s=0∨s=1∨s=2:=by omega
theorem cAt_get{c0 c1 c2 s:Nat}(h:s<3):([c0,c1,c2]:List Nat)[s]?=some (cAt c0 c1 c2 s):=by
  rcases lt3 h with rfl|rfl|rfl<;>rfl
theorem tn_cell{bb c0 c1 c2 pb s:Nat}{ws:List Int}(h:s<3):(tnC bb ws c0 c1 c2 pb)[7+s]?=some (ptr (cAt c0 c1 c2 s)):=by
  rcases lt3 h with rfl|rfl|rfl<;>rfl
structure TStep where
  kind:Int
  n:Int
  wv:Value
  wants:List Want
abbrev TStep.s (x:TStep):StepS:=⟨x.kind,x.n,x.wants⟩
def rTS (x:TStep):List Value:=[.int .i64 x.kind,.int .i64 x.n,x.wv]
theorem takeM_none{l:List Mail}{n:Int}(h:takeM l n=none):takeL l n=l:=by
  have:l.length=0:=by
    refine Classical.byContradiction fun h0=>?_
    obtain⟨m,hm⟩:=takeM_some (l:=l) n (by omega)
    rw[h] at hm;cases hm
  exact (take_none this).2
theorem deliverT_n{n:Int}(h:takeM t.post n=none):deliverT t n=(t,7):=by unfold deliverT;rw[h]
theorem deliverT_b{n:Int}{m:Mail}(h:takeM t.post n=some m)(hk:m.kind=2∨m.kind=4):deliverT t n=({t with post:=takeL t.post n,b:=hearB t.b m},0):=by
  unfold deliverT;rw[h];dsimp only;rw[if_pos hk]
theorem deliverT_o{n:Int}{m:Mail}(hl:t.ks.length=3)(h:takeM t.post n=some m)(hk:¬ (m.kind=2∨m.kind=4))(hs:m.shop<0∨3≤m.shop):deliverT t n=({t with post:=takeL t.post n},0):=by
  unfold deliverT;rw[h];dsimp only;rw[if_neg hk]
  split
  · rfl
  · rw[List.getElem?_eq_none (by omega)]
theorem deliverT_c{n:Int}{m:Mail}{i:Nat}{k:KeepS}(h:takeM t.post n=some m)(hk:¬ (m.kind=2∨m.kind=4))(hs:m.shop=(i:Int))(hi:t.ks[i]?=some k):deliverT t n=({t with ks:=t.ks.set i (ansK k m).1,post:=match (ansK k m).2 with|some x=>sendL (takeL t.post n) x|none=>takeL t.post n},0):=by
  unfold deliverT;rw[h];dsimp only;rw[if_neg hk,if_neg (by omega)]
  have e:m.shop.toNat=i:=by omega
  rw[e,hi];rfl
theorem stepT_1{x:StepS}(h:x.kind=1):stepT t x=({t with b:=(beginB t.b x.wants).1},(beginB t.b x.wants).2.2):=by unfold stepT;rw[if_pos h]
theorem stepT_2{x:StepS}(h:x.kind=2):stepT t x=(tickT t,0):=by unfold stepT;rw[if_neg (by omega),if_pos h]
theorem stepT_3{x:StepS}(h:x.kind=3):stepT t x=deliverT t x.n:=by unfold stepT;rw[if_neg (by omega),if_neg (by omega),if_pos h]
theorem stepT_4{x:StepS}(h:x.kind=4):stepT t x=if (takeM t.post x.n).isSome then ({t with post:=takeL t.post x.n},0) else (t,7):=by unfold stepT;rw[if_neg (by omega),if_neg (by omega),if_neg (by omega),if_pos h]
theorem stepT_5{x:StepS}(h:x.kind=5):stepT t x=if t.post.length=0 then (t,7) else if dblOk t.post then ({t with post:=dblL t.post x.n},0) else (t,6):=by
  unfold stepT;rw[if_neg (by omega),if_neg (by omega),if_neg (by omega),if_neg (by omega),if_pos h]
theorem stepT_6{x:StepS}(h:x.kind=6):stepT t x=({t with b:=(quitB t.b x.n).1},(quitB t.b x.n).2):=by unfold stepT;rw[if_neg (by omega),if_neg (by omega),if_neg (by omega),if_neg (by omega),if_neg (by omega),if_pos h]
theorem stepT_7{x:StepS}(h:x.kind=7):stepT t x=if x.n<0∨3≤x.n then (t,(1:Int)) else match t.ks[x.n.toNat]? with|none=>(t,(1:Int))|some k=>({t with ks:=t.ks.set x.n.toNat (crashK k)},0):=by
  unfold stepT;rw[if_neg (by omega),if_neg (by omega),if_neg (by omega),if_neg (by omega),if_neg (by omega),if_neg (by omega),if_pos h];rfl
theorem stepT_8{x:StepS}(h:x.kind=8):stepT t x=({t with b:=crashB t.b},0):=by
  unfold stepT;rw[if_neg (by omega),if_neg (by omega),if_neg (by omega),if_neg (by omega),if_neg (by omega),if_neg (by omega),if_neg (by omega),if_pos h]
theorem stepT_9{x:StepS}(h:x.kind≠1)(h2:x.kind≠2)(h3:¬ (x.kind=3∨x.kind=4∨x.kind=5))(h6:x.kind≠6)(h7:x.kind≠7)(h8:x.kind≠8):stepT t x=(t,10):=by
  unfold stepT;rw[if_neg h,if_neg h2,if_neg (by omega),if_neg (by omega),if_neg (by omega),if_neg h6,if_neg h7,if_neg h8]
theorem dbl_no{l:List Mail}{n:Int}(h:dblOk l=false)(hl:l.length≤40):dblL l n=l:=by
  unfold dblL
  cases hm:takeM l n with
  | none=>rfl
  | some m=>
    dsimp only
    unfold sendL
    rw[if_neg]
    intro h40
    have h0:0<l.length:=by
      refine Classical.byContradiction fun h0=>?_
      rw[show l=[] from List.eq_nil_of_length_eq_zero (by omega),takeM_nil] at hm
      cases hm
    unfold dblOk at h
    simp at h
    omega
theorem drainT_step (h:0<t.post.length):drainT t=drainT (deliverT t 0).1:=by rw[drainT,dif_pos h]
theorem drainT_end (h:¬ 0<t.post.length):drainT t=t:=by rw[drainT,dif_neg h]
theorem worldT_len (h:t.ks.length=3):(worldT t).length=6:=by
  match hk:t.ks,h with
  | [a,b,c],_=>simp[worldT,hk]
theorem worldT_get{s:Nat}{k:KeepS}(h:t.ks.length=3)(hk:t.ks[s]?=some k):(worldT t).getD (2*s) 0=k.shop.c0.v∧(worldT t).getD (2*s+1) 0=k.shop.c1.v:=by
  match e:t.ks,h with
  | [a,b,c],_=>
    rw[e] at hk
    have hs:s<3:=(List.getElem?_eq_some_iff.1 hk).1
    rcases lt3 hs with rfl|rfl|rfl<;>simp at hk<;>subst hk<;>simp[worldT,e]
end Go.Proofs.YtmakdilmibjpbaaGreatDoor
namespace Go.Proofs.YtmakdilmibjpbaaGreatDoor
open Go Go.RowKit
set_option linter.unusedVariables false
set_option maxRecDepth 20000
abbrev dkL (b tb:Nat)(u:List UInt8)(x:Value×Value):List HP:=[blk b [x.1,x.2,ptr tb] 46,sl x.2 5 1 (u.map rBy)]
abbrev dkR (b:Nat)(u:List UInt8)(x:Value×Value):Prop:=(x.1=.pointer Option.none∨x.1=ptr b)∧(u=[]→x.2=.slice Option.none 0 0)
def bdP (b tb:Nat)(u:List UInt8):HP:=exP (dkR b u) (dkL b tb u)
def bdI (b tb:Nat):HP:=ex2 fun (av bv:Value)=>[blk b [av,bv,ptr tb] 46]
section closing
variable{H R R1 R2:List HP}{b tb:Nat}{u:List UInt8}
theorem bdP_close (av bv:Value){cs:List Value}{r:List (List Value)}[x:SelB H b cs 46 R][y:SelS R bv 5 1 r R1](e:cs=[av,bv,ptr tb])(e1:r=u.map rBy)(ha:av=.pointer Option.none∨av=ptr b)(hb:u=[]→bv=.slice Option.none 0 0):Ent H (bdP b tb u::R1):=by
  subst e;subst e1
  exact Ent.tr (Ent.tr x.ent (Ent.mono y.ent)) (Ent.exP (φ:=dkR b u) (L:=dkL b tb u) (av,bv) ⟨ha,hb⟩)
theorem bdI_close (av bv:Value){cs:List Value}[x:SelB H b cs 46 R](e:cs=[av,bv,ptr tb]):Ent H (bdI b tb::R):=by
  subst e
  exact Ent.tr x.ent (Ent.ex2 (L:=fun (av bv:Value)=>[blk b [av,bv,ptr tb] 46]) av bv)
theorem bd_cell{M:Amb}(h:Ent H (bdP b tb u::R)):CellAt M H b 2 (ptr tb):=fun w ho=>by
  obtain⟨x,_,hx⟩:=(show Own M (bdP b tb u::R) w from ho.ent h).exP
  have hx1:Own M (blk b [x.1,x.2,ptr tb] 46::sl x.2 5 1 (u.map rBy)::R) w:=hx
  rw[hx1.cell];rfl
end closing
section opening
variable{P:Program}{F:Exit→Act→World→Prop}{N:Nat}{M:Amb}{K:List KI}{env:Env}{b tb:Nat}{u:List UInt8}{R:List HP}
end opening
end Go.Proofs.YtmakdilmibjpbaaGreatDoor
