/- Functions as values, elements of arrays as values, parts that hide two or three values. -/
import Derived.Test.YtmakdilmibjpbaaGreatDoorTwo
namespace Go.Proofs.YtmakdilmibjpbaaGreatDoor
open Go Go.RowKit
set_option linter.unusedVariables false
variable{P:Program}{F:Exit→Act→World→Prop}{N:Nat}{M:Amb}{env eb:Env}{H H' R:List HP}{a:Act}{w:World}{ops:Array Oper}{o:Oper}{rest:List Oper}{K:List KI}
variable{g gx gy gz:Bool}{x y z:Operand}{v v' u ret:Value}{T T2 E:TypeId}{k:IntKind}{m:Int}{f:FuncId}
abbrev fnV (f:FuncId)(caps:List Value):Value:=.func (.func f) #[] caps.toArray
theorem pv_mkf{xs:List Operand}{vs:List Value}(hgd:o.guard=Option.none)(hop:o.op=.makeFunc (.func f) #[] xs.toArray)(ha:Args env xs vs):PV P ops o env true (fnV f vs):=
  fun _ a hf=>⟨by simp[Region.wanted,hgd],fun _ w=>by
    have hm:=ha.map hf
    simp[execOp,hop,Instr.makeFunc,fnV]
    exact hm⟩
theorem rq_callf {cx : Operand} {xs : List Operand} {vs caps : List Value} {at' : Array TypeId} (cf : cfB P f = true) (hg : Gd ops env o g) (hop : o.op = .call { callee := .value cx, args := xs.toArray, argTypes := at' })
    (hc0 : evo env cx = some (gx, fnV f caps)) (hi : g = true → gx = true) (ha : ArgsG env g xs vs) (hc : g = true → FnV P M H f (vs ++ caps) v) : RQ P M ops o env H g v := fun N a w hf ho => ⟨hg.wanted hf, fun e Kc Q hK => by
  have hr:(execOp a.eval o).run P w=.ok (.enter f (vs++caps).toArray) w:=by
    have hm:=ha.map hf e
    have hcv:=hf.ev hc0 (hi e)
    have hm2:(xs.map a.eval).toArray=vs.toArray:=by rw[hm]
    have hm3:Array.map a.eval xs.toArray=vs.toArray:=by rw[← hm2];simp
    simp only[execOp,hop,resolve,hcv,Deferred.ofValue,Sem.run_bind,Sem.run_pure,Result.andThen_ok,invoke,hm3]
    rw[show (#[]++vs.toArray++caps.toArray)=(vs++caps).toArray by simp]
    exact run_callFunc cf
  simp only[Oper.wp,hr,Oper.upon_enter]
  refine (hc e w ho).mono ?_
  rintro e w' ⟨v,H',rfl,⟨rfl,rfl⟩,ho'⟩
  exact hK w' ho'⟩
section short
variable{d:Nat}{ty:TypeId}{ps:String}{af:Array Edge}{A A' C:List HP}{xs:List Operand}{vs caps:List Value}{at':Array TypeId}
end short
theorem pv_index {nn sz i : Nat} {cs us : List Value} (hT : P.underlying T = some (.array nn E)) (ta : taB P E sz = true) (hn : g = true → m = (i : Int) ∧ i < nn) (hg : Gd ops env o g) (hop : o.op = .index T x y)
    (hx : evo env x = some (gx, .agg cs.toArray)) (hy : evo env y = some (gy, .int k m)) (hi : g = true → gx = true ∧ gy = true) (hv : g = true → (cs.drop (i * sz)).take sz = us) : PV P ops o env g (.agg us.toArray) :=
  fun _ _ hf=>⟨hg.wanted hf,fun e w=>by
    obtain⟨rfl,hlt⟩:=hn e
    obtain⟨h1,inf,h3,h4⟩:=run_isAgg_yes ta w
    have hv:=hv e
    have hbd:(0:Int)≤(i:Int)∧(i:Int)<(nn:Int):=by omega
    simp only[execOp,hop,Instr.index,hf.ev hx (hi e).1,hf.ev hy (hi e).2,asIntOf,Sem.run_bind,Sem.run_pure,Result.andThen_ok,run_und hT,hbd,and_self,if_true,sizeOf,run_info h3,h4,part,h1,Int.toNat_natCast]
    simp[← hv,List.take_drop,Nat.add_comm]⟩
theorem rq_no (hg:Gd ops env o g)(e:g=false):RQ P M ops o env H false v:=fun N a w hf _=>⟨e▸hg.wanted hf,fun h=>by cases h⟩
theorem r_cat2{X Y:HP}{A B C:List HP}[c:Cat A B C](h:Run P F N M K env (X::Y::C)):Run P F N M K env (X::Y::(A++B)):=by rw[c.eq];exact h
def ex2{α β:Type}(L:α→β→List HP):HP:=fun h=>∃ x y,sep (L x y) h
def ex3{α β γ:Type}(L:α→β→γ→List HP):HP:=fun h=>∃ x y z,sep (L x y z) h
theorem Ent.ex2{α β:Type}{L:α→β→List HP}(x:α)(y:β):Ent (L x y++R) (Go.Proofs.YtmakdilmibjpbaaGreatDoor.ex2 L::R):=fun h hx=>by
  obtain⟨a,b,ha,hb,hd,e⟩:=sep_app hx
  exact⟨h,⟨a,b,⟨x,y,ha⟩,hb,hd,e⟩,Hp.sub_refl h⟩
theorem Ent.ex3{α β γ:Type}{L:α→β→γ→List HP}(x:α)(y:β)(z:γ):Ent (L x y z++R) (Go.Proofs.YtmakdilmibjpbaaGreatDoor.ex3 L::R):=fun h hx=>by
  obtain⟨a,b,ha,hb,hd,e⟩:=sep_app hx
  exact⟨h,⟨a,b,⟨x,y,z,ha⟩,hb,hd,e⟩,Hp.sub_refl h⟩
theorem Own.ex2{α β:Type}{L:α→β→List HP}(ho:Own M (Go.Proofs.YtmakdilmibjpbaaGreatDoor.ex2 L::R) w):∃ x y,Own M (L x y++R) w:=by
  obtain⟨hb,hs,h,⟨a,b,⟨x,y,hx⟩,hr,hd,e⟩,hh⟩:=ho
  subst e
  exact⟨x,y,hb,hs,_,sep_app' hx hr hd,hh⟩
theorem Own.ex3{α β γ:Type}{L:α→β→γ→List HP}(ho:Own M (Go.Proofs.YtmakdilmibjpbaaGreatDoor.ex3 L::R) w):∃ x y z,Own M (L x y z++R) w:=by
  obtain⟨hb,hs,h,⟨a,b,⟨x,y,z,hx⟩,hr,hd,e⟩,hh⟩:=ho
  subst e
  exact⟨x,y,z,hb,hs,_,sep_app' hx hr hd,hh⟩
theorem r_ex2{α β:Type}{L:α→β→List HP}(h:∀ x y,Run P F N M K env (L x y++R)):Run P F N M K env (ex2 L::R):=fun a w hf ho=>let ⟨x,y,hx⟩:=ho.ex2;h x y a w hf hx
theorem r_ex3{α β γ:Type}{L:α→β→γ→List HP}(h:∀ x y z,Run P F N M K env (L x y z++R)):Run P F N M K env (ex3 L::R):=fun a w hf ho=>let ⟨x,y,z,hx⟩:=ho.ex3;h x y z a w hf hx
end Go.Proofs.YtmakdilmibjpbaaGreatDoor
