/- Short names for what the printed walks say most often. -/
import Derived.Test.YtmakdilmibjpbaaGreatDoorTwo
namespace Go.Proofs.YtmakdilmibjpbaaGreatDoor
open Go Go.RowKit
set_option linter.unusedVariables false
section ents
variable{H R L:List HP}{b sz:Nat}{cs:List Value}{T E:TypeId}{v:Value}{rows:List (List Value)}{X:HP}
theorem eR:Ent H H:=Ent.rfl
theorem eB [s:SelB H b cs T R](k:Ent R L):Ent H (blk b cs T::L):=Ent.c s.ent k
theorem eS [s:SelS H v E sz rows R](k:Ent R L):Ent H (sl v E sz rows::L):=Ent.c s.ent k
theorem eX [s:SelX H X R](k:Ent R L):Ent H (X::L):=Ent.c s.ent k
theorem eD (k:Ent R L):Ent (X::R) L:=Ent.dropR k
theorem eN (k:Ent H L):Ent H (sl (.slice Option.none 0 0) E sz []::L):=Ent.cN k
end ents
theorem bq1 (a b:Bool):((a&&b)=true)=(a=true∧b=true):=Bool.and_eq_true a b
theorem bq2 (a b:Bool):((a||b)=true)=(a=true∨b=true):=Bool.or_eq_true a b
theorem bq3 (a b:Bool):((a||b)=false)=(a=false∧b=false):=by simp
theorem bq4 (a:Bool):((!a)=true)=(a=false):=by simp
theorem bq5 (a:Bool):((!a)=false)=(a=true):=by simp
theorem bq6 (p:Prop)[Decidable p]:(decide p=true)=p:=by simp
theorem bq7 (p:Prop)[Decidable p]:(decide p=false)=¬ p:=by simp
theorem bq8 (a b:Bool):((a&&b)=false)=(a=false∨b=false):=by cases a<;>cases b<;>simp
variable{P:Program}{F:Exit→Act→World→Prop}{N:Nat}{M:Amb}{env E0:Env}{H Hq He:List HP}{ops:Array Oper}{o:Oper}{K:List KI}{p:Plan}{eff:List Nat}
variable{g gx:Bool}{x y:Operand}{v:Value}
theorem r_sr{id:Nat}{l:List Oper}{c:Code}(h:Ops P F N M (.code c::K) l.toArray l env H):Run P F N M (.code (.seq (.region id l.toArray false) c)::K) env H:=r_seq (r_region h)
theorem qp {d : Nat} (i : Nat) (l : List Src) (hi : ops[i]? = some o) (hn : getP p i = Option.none) (hd : o.dst = some d) (hN : Nat.blt d N = true) (hs : srcB ops i l = true) (hin : inP p l = true)
    (hq : PV P ops o (srcEnv p E0 l) g v) (k : QM P F N M K ops E0 Hq ((i, some (d, g, v)) :: p) eff He) : QM P F N M K ops E0 Hq p eff He := qm_q hi hn hd hN hs hin (fun _ => hq.rq) k
theorem qr {d : Nat} (i : Nat) (l : List Src) (hi : ops[i]? = some o) (hn : getP p i = Option.none) (hd : o.dst = some d) (hN : Nat.blt d N = true) (hs : srcB ops i l = true) (hin : inP p l = true)
    (hq : ∀ He, RV P M ops o (srcEnv p E0 l) (He ++ Hq) g v) (k : QM P F N M K ops E0 Hq ((i, some (d, g, v)) :: p) eff He) : QM P F N M K ops E0 Hq p eff He := qm_q hi hn hd hN hs hin (fun He => (hq He).rq) k
theorem u_mv (h0:o.guard=Option.none)(hop:o.op=.move x)(hx:evo env x=some (true,v)):PV P ops o env true v:=pv_mv (.n h0) hop hx (fun _=>rfl)
theorem u_as (h0:o.guard=Option.none)(hop:o.op=.assign x)(hx:evo env x=some (true,v)):PV P ops o env true v:=pv_as (.n h0) hop hx (fun _=>rfl)
theorem u_nil{A:Addr}(h0:o.guard=Option.none)(hop:o.op=.nilCheck x)(hx:evo env x=some (true,.pointer (some A))):PV P ops o env true (.pointer (some A)):=pv_nilp (.n h0) hop hx (fun _=>rfl)
theorem u_fa{s:TypeId}{f fo b off:Nat}(fa:faB P s f fo=true)(h0:o.guard=Option.none)(hop:o.op=.fieldAddr s x f)(hx:evo env x=some (true,.pointer (some ⟨b,off,Option.none⟩))):PV P ops o env true (.pointer (some ⟨b,off+fo,Option.none⟩)):=pv_fa fa (.n h0) hop hx (fun _=>rfl)
theorem u_ext{t i:Nat}{vs:List Value}(h0:o.guard=Option.none)(hop:o.op=.extract (.tmp t) i)(hx:look env t=some (true,.tuple vs.toArray))(hv:vs[i]?=some v):PV P ops o env true v:=pv_ext (.n h0) hop hx hv (fun _=>rfl)
theorem u_ldc{t b i:Nat}{cs:List Value}{T:TypeId}{R:List HP}(tc:tcB P t=true)(h0:o.guard=Option.none)(hop:o.op=.load t x)(hx:evo env x=some (true,.pointer (some ⟨b,i,Option.none⟩)))[s:SelB H b cs T R](hv:cs[i]?=some v):RV P M ops o env H true v:=q_ldc tc (.n h0) hop hx (fun _=>rfl) hv
def kpF (env:Env):List Nat→Option Env
  | []=>some []
  | k::ks=>match look env k with
    | Option.none=>Option.none
    | some x=>match kpF env ks with
      | Option.none=>Option.none
      | some e=>some ((k,x)::e)
theorem kp{env:Env}:∀ {e:Env} (ks:List Nat),kpF env ks=some e→Keep env e
  | _,[],h=>by cases h;exact .n
  | _,k::ks,h=>by
    unfold kpF at h
    split at h
    · cases h
    · rename_i x hx
      split at h
      · cases h
      · rename_i e' he
        cases h
        exact .c (g:=x.1) (v:=x.2) k hx (kp ks he)
inductive EntI:List HP→List HP→Prop
  | r {H:List HP}:EntI H H
  | b {H R L:List HP} {b:Nat} {cs:List Value} {T:TypeId} [s:SelB H b cs T R] (k:EntI R L):EntI H (blk b cs T::L)
  | s {H R L:List HP} {v:Value} {E:TypeId} {sz:Nat} {rows:List (List Value)} [s:SelS H v E sz rows R] (k:EntI R L):EntI H (sl v E sz rows::L)
  | n {H L:List HP} {E:TypeId} {sz:Nat} (k:EntI H L):EntI H (sl (.slice Option.none 0 0) E sz []::L)
  | x {H R L:List HP} {X:HP} [s:SelX H X R] (k:EntI R L):EntI H (X::L)
  | d {R L:List HP} {X:HP} (k:EntI R L):EntI (X::R) L
theorem eI{H L:List HP}(h:EntI H L):Ent H L:=by
  induction h with
  | r=>exact Ent.rfl
  | b k ih=>exact eB ih
  | s k ih=>exact eS ih
  | n k ih=>exact eN ih
  | x k ih=>exact eX ih
  | d k ih=>exact eD ih
inductive EntJ:List HP→List HP→Prop
  | a {H:List HP}:EntJ H H
  | b {X:HP} {R:List HP}:EntJ (X::R) [X]
  | c {H R:List HP} {v:Value} {E:TypeId} {sz:Nat} {rows:List (List Value)} [s:SelS H v E sz rows R]:EntJ H [sl v E sz rows]
  | e {R:List HP}:EntJ R []
  | f {A R:List HP}:EntJ (A++R) A
  | g {R R':List HP} {X:HP} (k:EntJ R R'):EntJ (X::R) R'
  | i {A B L:List HP} (k:EntJ B L):EntJ (A++B) L
theorem eJ{H L:List HP}(h:EntJ H L):Ent H L:=by
  induction h with
  | a=>exact Ent.rfl
  | b=>exact Ent.one Ent.h
  | c=>exact Ent.one (SelS.ent)
  | e=>exact Ent.nil
  | f=>exact Ent.left
  | g k ih=>exact Ent.dropR ih
  | i k ih=>exact Ent.tr Ent.skip ih
class GC (g gx:Bool):Prop where
  h:g=true→gx=true
instance gc1{g:Bool}:GC g true:=⟨fun _=>rfl⟩
instance gc2{g:Bool}:GC g g:=⟨id⟩
instance gc3{g h:Bool}:GC (g&&h) g:=⟨fun h=>(Bool.and_eq_true_iff.1 h).1⟩
theorem gA{g gx:Bool}[c:GC g gx]:g=true→gx=true:=c.h
theorem gB{g gx gy:Bool}[c:GC g gx][d:GC g gy]:g=true→gx=true∧gy=true:=fun h=>⟨c.h h,d.h h⟩
theorem fR{p:Prop}{α:Sort _}{a:α}:p→a=a:=fun _=>rfl
theorem fS{p:Prop}{α β:Sort _}{a:α}{b:β}:p→a=a∧b=b:=fun _=>⟨rfl,rfl⟩
def qc (ops:Array Oper)(p:Plan)(i:Nat)(l:List Src)(d N:Nat):Bool:=(getP p i).isNone&&Nat.blt d N&&srcB ops i l&&inP p l
theorem qc_get{d:Nat}{i:Nat}{l:List Src}(h:qc ops p i l d N=true):getP p i=Option.none∧Nat.blt d N=true∧srcB ops i l=true∧inP p l=true:=by
  unfold qc at h
  simp only[Bool.and_eq_true] at h
  obtain⟨⟨⟨h1,h2⟩,h3⟩,h4⟩:=h
  refine⟨?_,h2,h3,h4⟩
  cases hg:getP p i with
  | none=>rfl
  | some x=>rw[hg] at h1;cases h1
theorem yp {d : Nat} (i : Nat) (l : List Src) (hi : ops[i]? = some o) (hd : o.dst = some d) (hc : qc ops p i l d N = true)
    (hq : PV P ops o (srcEnv p E0 l) g v) (k : QM P F N M K ops E0 Hq ((i, some (d, g, v)) :: p) eff He) : QM P F N M K ops E0 Hq p eff He :=
  have h:=qc_get hc;qp i l hi h.1 hd h.2.1 h.2.2.1 h.2.2.2 hq k
theorem yr {d : Nat} (i : Nat) (l : List Src) (hi : ops[i]? = some o) (hd : o.dst = some d) (hc : qc ops p i l d N = true)
    (hq : ∀ He, RV P M ops o (srcEnv p E0 l) (He ++ Hq) g v) (k : QM P F N M K ops E0 Hq ((i, some (d, g, v)) :: p) eff He) : QM P F N M K ops E0 Hq p eff He :=
  have h:=qc_get hc;qr i l hi h.1 hd h.2.1 h.2.2.1 h.2.2.2 hq k
theorem yq {d : Nat} (i : Nat) (l : List Src) (hi : ops[i]? = some o) (hd : o.dst = some d) (hc : qc ops p i l d N = true)
    (hq : ∀ He, RQ P M ops o (srcEnv p E0 l) (He ++ Hq) g v) (k : QM P F N M K ops E0 Hq ((i, some (d, g, v)) :: p) eff He) : QM P F N M K ops E0 Hq p eff He :=
  have h:=qc_get hc;qm_q hi h.1 hd h.2.1 h.2.2.1 h.2.2.2 hq k
end Go.Proofs.YtmakdilmibjpbaaGreatDoor
