/- Short names for what the printed walks say most often. -/
import Derived.Test.YtmakdilmibjpbaaGreatDoorSh
import Derived.Test.YtmakdilmibjpbaaGreatDoorTwo
namespace Go.Proofs.YtmakdilmibjpbaaGreatDoor
open Go Go.RowKit
set_option linter.unusedVariables false
section ents
variable{H R L:List HP}{b sz:Nat}{cs:List Value}{T E:TypeId}{v:Value}{rows:List (List Value)}{X:HP}
theorem eR:Ent H H:=Ent.rfl
theorem eB [s:SelB H b cs T R](k:Ent R L):Ent H (blk b cs T::L):=Ent.c s.ent k
theorem eS [s:SelS H v E sz rows R](k:Ent R L):Ent H (sl v E sz rows::L):=Ent.c s.ent k
theorem eX [s:SelX H X R](k:Ent R L):Ent H (X::L):=Ent.c s.ent k
theorem eD (k:Ent R L):Ent (X::R) L:=Ent.dropR k
theorem eN (k:Ent H L):Ent H (sl (.slice Option.none 0 0) E sz []::L):=Ent.cN k
theorem eA(h:Ent H L:=by repeat first|exact eR|refine eB ?_|refine eS ?_|refine eN ?_|refine eX ?_|refine eD ?_):Ent H L:=h
end ents
theorem bq1 (a b:Bool):((a&&b)=true)=(a=true∧b=true):=Bool.and_eq_true a b
theorem bq2 (a b:Bool):((a||b)=true)=(a=true∨b=true):=Bool.or_eq_true a b
theorem bq3 (a b:Bool):((a||b)=false)=(a=false∧b=false):=Zs
theorem bq4 (a:Bool):((!a)=true)=(a=false):=Zs
theorem bq5 (a:Bool):((!a)=false)=(a=true):=Zs
theorem bq6 (p:Prop)[Decidable p]:(decide p=true)=p:=Zs
theorem bq7 (p:Prop)[Decidable p]:(decide p=false)=¬ p:=Zs
theorem bq8 (a b:Bool):((a&&b)=false)=(a=false∨b=false):=by cases a<;>cases b<;>simp
variable{P:Program}{F:Exit→Act→World→Prop}{N:Nat}{M:Amb}{env E0:Env}{H Hq He:List HP}{ops:Array Oper}{o:Oper}{K:List KI}{p:Plan}{eff:List Nat}
variable{g gx:Bool}{x y:Operand}{v:Value}
theorem r_sr{id:Nat}{l:List Oper}{c:Code}(h:Ops P F N M (.code c::K) l.toArray l env H):Run P F N M (.code (.seq (.region id l.toArray false) c)::K) env H:=r_seq (r_region h)
theorem qp {d : Nat} (i : Nat) (l : List Src) (hi : ops[i]? = some o) (hn : getP p i = Option.none) (hd : o.dst = some d) (hN : Nat.blt d N = true) (hs : srcB ops i l = true) (hin : inP p l = true)
    (hq : PV P ops o (srcEnv p E0 l) g v) (k : QM P F N M K ops E0 Hq ((i, some (d, g, v)) :: p) eff He) : QM P F N M K ops E0 Hq p eff He := qm_q hi hn hd hN hs hin (fun _ => hq.rq) k
theorem qr {d : Nat} (i : Nat) (l : List Src) (hi : ops[i]? = some o) (hn : getP p i = Option.none) (hd : o.dst = some d) (hN : Nat.blt d N = true) (hs : srcB ops i l = true) (hin : inP p l = true)
    (hq : ∀ He, RV P M ops o (srcEnv p E0 l) (He ++ Hq) g v) (k : QM P F N M K ops E0 Hq ((i, some (d, g, v)) :: p) eff He) : QM P F N M K ops E0 Hq p eff He := qm_q hi hn hd hN hs hin (fun He => (hq He).rq) k
theorem u_mv (h0:o.guard=Option.none)(hop:o.op=.move x)(hx:evo env x=some (true,v)):PV P ops o env true v:=pv_mv (.n h0) hop hx (fun _=>rfl)
theorem u_as (h0:o.guard=Option.none)(hop:o.op=.assign x)(hx:evo env x=some (true,v)):PV P ops o env true v:=pv_as (.n h0) hop hx (fun _=>rfl)
theorem u_nil{A:Addr}(h0:o.guard=Option.none)(hop:o.op=.nilCheck x)(hx:evo env x=some (true,.pointer (some A))):PV P ops o env true (.pointer (some A)):=pv_nilp (.n h0) hop hx (fun _=>rfl)
theorem u_fa{s:TypeId}{f fo b off:Nat}(fa:faB P s f fo=true)(h0:o.guard=Option.none)(hop:o.op=.fieldAddr s x f)(hx:evo env x=some (true,.pointer (some ⟨b,off,Option.none⟩))):PV P ops o env true (.pointer (some ⟨b,off+fo,Option.none⟩)):=pv_fa fa (.n h0) hop hx (fun _=>rfl)
theorem u_ext{t i:Nat}{vs:List Value}(h0:o.guard=Option.none)(hop:o.op=.extract (.tmp t) i)(hx:look env t=some (true,.tuple vs.toArray))(hv:vs[i]?=some v):PV P ops o env true v:=pv_ext (.n h0) hop hx hv (fun _=>rfl)
theorem u_ldc{t b i:Nat}{cs:List Value}{T:TypeId}{R:List HP}(tc:tcB P t=true)(h0:o.guard=Option.none)(hop:o.op=.load t x)(hx:evo env x=some (true,.pointer (some ⟨b,i,Option.none⟩)))[s:SelB H b cs T R](hv:cs[i]?=some v):RV P M ops o env H true v:=q_ldc tc (.n h0) hop hx (fun _=>rfl) hv
end Go.Proofs.YtmakdilmibjpbaaGreatDoor
