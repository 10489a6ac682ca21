/- Loops and joins, with relations of several parameters. Written by looptpl.py. Objects: parts that hide what they hold; contracts over them; guards; barriers in regions whose order is drawn. What slices.Delete and slices.Clone do to a slice of one's own: append in place, clear, slices with a bound. -/
import Derived.Test.YtmakdilmibjpbacGreatAuto
import Derived.Laws.CopyRow
namespace Go.Proofs.YtmakdilmibjpbacGreat
open Go Go.RowKit

variable {P : Program} {F : Exit → Act → World → Prop} {N : Nat} {M : Amb} {env eb : Env} {H H' R : List HP} {K : List KI}

theorem run_goal {c : Code} {φ ψ : Act → World → Prop} (h : ∀ a w, φ a w → ψ a w) (r : Run P F N M (.code c :: .goal φ :: K) env H) : Run P F N M (.code c :: .goal ψ :: K) env H := by
  intro a w hf ho
  refine wp_mono (r a w hf ho) ?_
  intro e a' w' hq
  cases e with
  | normal => exact h _ _ hq
  | _ => exact hq
theorem r_cut {c : Code} {φ : Act → World → Prop} (first : Run P F N M (.code c :: .goal φ :: K) env H) (next : ∀ a w, φ a w → post P F K .normal a w) : Run P F N M (.code c :: K) env H := by
  intro a w hf ho
  refine wp_mono (first a w hf ho) ?_
  intro e a' w' hq
  cases e with
  | normal => exact next _ _ hq
  | _ => exact hq

theorem r_loop_1 {α1 : Type} {c : Code} (E : α1 → Env) (hb : Keep env eb) (Hh : α1 → List HP) (Inv : α1 → Prop) (μ : α1 → Nat) (x1 : α1) (hi : Inv x1) (hk : Keep env (E x1)) (he : Ent H (Hh x1))
    (round : ∀ x1, Inv x1 → Run P F N M (.code c :: .goal (fun a w => ∃ y1, (Inv y1 ∧ μ y1 < μ x1) ∧ Fits N (E y1 ++ eb) a ∧ Own M (Hh y1) w) :: K) (E x1 ++ eb) (Hh x1)) :
    Run P F N M (.code (.loop c) :: K) env H :=
  r_loop (α := α1) (fun x => E x ++ eb) (fun x => Hh x) (fun x => Inv x) (fun x => μ x) x1 hi (hk.app hb) he fun x hx => run_goal (fun _ _ ⟨y1, h⟩ => ⟨y1, h⟩) (round x hx)
theorem r_back_1 {α1 : Type} {E : α1 → Env} {Hh : α1 → List HP} {Inv : α1 → Prop} {μ : α1 → Nat} {m : Nat} (y1 : α1) (hi : Inv y1) (hm : μ y1 < m) (hk : Keep env (E y1 ++ eb)) (he : Ent H (Hh y1)) :
    Run P F N M (.goal (fun a w => ∃ y1, (Inv y1 ∧ μ y1 < m) ∧ Fits N (E y1 ++ eb) a ∧ Own M (Hh y1) w) :: K) env H :=
  fun _ _ hf ho => ⟨y1, ⟨hi, hm⟩, hf.keep hk, ho.ent he⟩
theorem r_cut_1 {α1 : Type} {c : Code} (E : α1 → Env) (_ : Keep env eb) (Hh : α1 → List HP) (Inv : α1 → Prop)
    (first : Run P F N M (.code c :: .goal (fun a w => ∃ y1, Inv y1 ∧ Fits N (E y1 ++ eb) a ∧ Own M (Hh y1) w) :: K) env H) (next : ∀ x1, Inv x1 → Run P F N M K (E x1 ++ eb) (Hh x1)) : Run P F N M (.code c :: K) env H :=
  r_cut first fun _ _ ⟨y1, hi, hf, ho⟩ => next y1 hi _ _ hf ho
theorem r_join_1 {α1 : Type} {E : α1 → Env} {Hh : α1 → List HP} {Inv : α1 → Prop} (y1 : α1) (hi : Inv y1) (hk : Keep env (E y1 ++ eb)) (he : Ent H (Hh y1)) :
    Run P F N M (.goal (fun a w => ∃ y1, Inv y1 ∧ Fits N (E y1 ++ eb) a ∧ Own M (Hh y1) w) :: K) env H :=
  fun _ _ hf ho => ⟨y1, hi, hf.keep hk, ho.ent he⟩

theorem r_loop_2 {α1 α2 : Type} {c : Code} (E : α1 → α2 → Env) (hb : Keep env eb) (Hh : α1 → α2 → List HP) (Inv : α1 → α2 → Prop) (μ : α1 → α2 → Nat) (x1 : α1) (x2 : α2) (hi : Inv x1 x2) (hk : Keep env (E x1 x2)) (he : Ent H (Hh x1 x2))
    (round : ∀ x1 x2, Inv x1 x2 → Run P F N M (.code c :: .goal (fun a w => ∃ y1 y2, (Inv y1 y2 ∧ μ y1 y2 < μ x1 x2) ∧ Fits N (E y1 y2 ++ eb) a ∧ Own M (Hh y1 y2) w) :: K) (E x1 x2 ++ eb) (Hh x1 x2)) :
    Run P F N M (.code (.loop c) :: K) env H :=
  r_loop (α := α1 × α2) (fun x => E x.1 x.2 ++ eb) (fun x => Hh x.1 x.2) (fun x => Inv x.1 x.2) (fun x => μ x.1 x.2) (x1, x2) hi (hk.app hb) he fun x hx => run_goal (fun _ _ ⟨y1, y2, h⟩ => ⟨(y1, y2), h⟩) (round x.1 x.2 hx)
theorem r_back_2 {α1 α2 : Type} {E : α1 → α2 → Env} {Hh : α1 → α2 → List HP} {Inv : α1 → α2 → Prop} {μ : α1 → α2 → Nat} {m : Nat} (y1 : α1) (y2 : α2) (hi : Inv y1 y2) (hm : μ y1 y2 < m) (hk : Keep env (E y1 y2 ++ eb)) (he : Ent H (Hh y1 y2)) :
    Run P F N M (.goal (fun a w => ∃ y1 y2, (Inv y1 y2 ∧ μ y1 y2 < m) ∧ Fits N (E y1 y2 ++ eb) a ∧ Own M (Hh y1 y2) w) :: K) env H :=
  fun _ _ hf ho => ⟨y1, y2, ⟨hi, hm⟩, hf.keep hk, ho.ent he⟩
theorem r_cut_2 {α1 α2 : Type} {c : Code} (E : α1 → α2 → Env) (_ : Keep env eb) (Hh : α1 → α2 → List HP) (Inv : α1 → α2 → Prop)
    (first : Run P F N M (.code c :: .goal (fun a w => ∃ y1 y2, Inv y1 y2 ∧ Fits N (E y1 y2 ++ eb) a ∧ Own M (Hh y1 y2) w) :: K) env H) (next : ∀ x1 x2, Inv x1 x2 → Run P F N M K (E x1 x2 ++ eb) (Hh x1 x2)) : Run P F N M (.code c :: K) env H :=
  r_cut first fun _ _ ⟨y1, y2, hi, hf, ho⟩ => next y1 y2 hi _ _ hf ho
theorem r_join_2 {α1 α2 : Type} {E : α1 → α2 → Env} {Hh : α1 → α2 → List HP} {Inv : α1 → α2 → Prop} (y1 : α1) (y2 : α2) (hi : Inv y1 y2) (hk : Keep env (E y1 y2 ++ eb)) (he : Ent H (Hh y1 y2)) :
    Run P F N M (.goal (fun a w => ∃ y1 y2, Inv y1 y2 ∧ Fits N (E y1 y2 ++ eb) a ∧ Own M (Hh y1 y2) w) :: K) env H :=
  fun _ _ hf ho => ⟨y1, y2, hi, hf.keep hk, ho.ent he⟩

theorem r_loop_3 {α1 α2 α3 : Type} {c : Code} (E : α1 → α2 → α3 → Env) (hb : Keep env eb) (Hh : α1 → α2 → α3 → List HP) (Inv : α1 → α2 → α3 → Prop) (μ : α1 → α2 → α3 → Nat) (x1 : α1) (x2 : α2) (x3 : α3) (hi : Inv x1 x2 x3) (hk : Keep env (E x1 x2 x3)) (he : Ent H (Hh x1 x2 x3))
    (round : ∀ x1 x2 x3, Inv x1 x2 x3 → Run P F N M (.code c :: .goal (fun a w => ∃ y1 y2 y3, (Inv y1 y2 y3 ∧ μ y1 y2 y3 < μ x1 x2 x3) ∧ Fits N (E y1 y2 y3 ++ eb) a ∧ Own M (Hh y1 y2 y3) w) :: K) (E x1 x2 x3 ++ eb) (Hh x1 x2 x3)) :
    Run P F N M (.code (.loop c) :: K) env H :=
  r_loop (α := α1 × α2 × α3) (fun x => E x.1 x.2.1 x.2.2 ++ eb) (fun x => Hh x.1 x.2.1 x.2.2) (fun x => Inv x.1 x.2.1 x.2.2) (fun x => μ x.1 x.2.1 x.2.2) (x1, x2, x3) hi (hk.app hb) he fun x hx => run_goal (fun _ _ ⟨y1, y2, y3, h⟩ => ⟨(y1, y2, y3), h⟩) (round x.1 x.2.1 x.2.2 hx)
theorem r_back_3 {α1 α2 α3 : Type} {E : α1 → α2 → α3 → Env} {Hh : α1 → α2 → α3 → List HP} {Inv : α1 → α2 → α3 → Prop} {μ : α1 → α2 → α3 → Nat} {m : Nat} (y1 : α1) (y2 : α2) (y3 : α3) (hi : Inv y1 y2 y3) (hm : μ y1 y2 y3 < m) (hk : Keep env (E y1 y2 y3 ++ eb)) (he : Ent H (Hh y1 y2 y3)) :
    Run P F N M (.goal (fun a w => ∃ y1 y2 y3, (Inv y1 y2 y3 ∧ μ y1 y2 y3 < m) ∧ Fits N (E y1 y2 y3 ++ eb) a ∧ Own M (Hh y1 y2 y3) w) :: K) env H :=
  fun _ _ hf ho => ⟨y1, y2, y3, ⟨hi, hm⟩, hf.keep hk, ho.ent he⟩
theorem r_cut_3 {α1 α2 α3 : Type} {c : Code} (E : α1 → α2 → α3 → Env) (_ : Keep env eb) (Hh : α1 → α2 → α3 → List HP) (Inv : α1 → α2 → α3 → Prop)
    (first : Run P F N M (.code c :: .goal (fun a w => ∃ y1 y2 y3, Inv y1 y2 y3 ∧ Fits N (E y1 y2 y3 ++ eb) a ∧ Own M (Hh y1 y2 y3) w) :: K) env H) (next : ∀ x1 x2 x3, Inv x1 x2 x3 → Run P F N M K (E x1 x2 x3 ++ eb) (Hh x1 x2 x3)) : Run P F N M (.code c :: K) env H :=
  r_cut first fun _ _ ⟨y1, y2, y3, hi, hf, ho⟩ => next y1 y2 y3 hi _ _ hf ho
theorem r_join_3 {α1 α2 α3 : Type} {E : α1 → α2 → α3 → Env} {Hh : α1 → α2 → α3 → List HP} {Inv : α1 → α2 → α3 → Prop} (y1 : α1) (y2 : α2) (y3 : α3) (hi : Inv y1 y2 y3) (hk : Keep env (E y1 y2 y3 ++ eb)) (he : Ent H (Hh y1 y2 y3)) :
    Run P F N M (.goal (fun a w => ∃ y1 y2 y3, Inv y1 y2 y3 ∧ Fits N (E y1 y2 y3 ++ eb) a ∧ Own M (Hh y1 y2 y3) w) :: K) env H :=
  fun _ _ hf ho => ⟨y1, y2, y3, hi, hf.keep hk, ho.ent he⟩

class SelX (H : List HP) (X : HP) (R : outParam (List HP)) : Prop where
  ent : Ent H (X :: R)
instance selXh {X : HP} : SelX (X :: R) X R := ⟨Ent.h⟩
instance selXt {X Y : HP} {R' : List HP} [s : SelX R X R'] : SelX (Y :: R) X (Y :: R') := ⟨Ent.t s.ent⟩
instance selXa {X : HP} {A B R' : List HP} [s : SelX B X R'] : SelX (A ++ B) X (A ++ R') := ⟨Ent.selA s.ent⟩
theorem Ent.cN {E : TypeId} {sz : Nat} {L : List HP} (k : Ent H L) : Ent H (sl (.slice Option.none 0 0) E sz [] :: L) := Ent.tr Ent.slN (Ent.mono k)
theorem r_slN (E : TypeId) (sz : Nat) (h : Run P F N M K env (sl (.slice Option.none 0 0) E sz [] :: H)) : Run P F N M K env H := r_ent Ent.slN h
theorem mapget {α β : Type} {f : α → β} {l : List α} {i : Nat} {a : α} (h : l[i]? = some a) : (l.map f)[i]? = some (f a) := by rw [List.getElem?_map, h]; rfl
theorem getlt {α : Type} {l : List α} {i : Nat} (h : i < l.length) : ∃ a, l[i]? = some a := ⟨l[i], List.getElem?_eq_getElem h⟩
theorem Rd.len {α : Type} {f : α → List Value} {v : Value} {sz : Nat} {l : List α} (h : Rd M H v sz (l.map f)) : ∃ ao c, v = .slice ao l.length c := by
  obtain ⟨ao, c, e⟩ := h.shape
  exact ⟨ao, c, by rw [e, List.length_map]⟩
theorem pv_lens {ops : Array Oper} {o : Oper} {g gx : Bool} {x : Operand} {T Tr : TypeId} {v : Value} {n : Nat} {at' : Array TypeId} (hv : ∃ ao c, v = .slice ao n c) (hs : ∃ e, P.underlying T = some (.slice e)) (hg : Gd ops env o g)
    (hop : o.op = .call { callee := .builtin .len, args := #[x], argTypes := at' }) (hT : at'[0]? = some T) (ht : o.type = Tr) (hx : evo env x = some (gx, v)) (hi : g = true → gx = true) : PV P ops o env g (.int .i64 n) := by
  obtain ⟨ao, c, rfl⟩ := hv
  exact pv_len hs hg hop hT ht hx hi
theorem Rd.to {v : Value} {sz : Nat} {rows rows' : List (List Value)} (h : Rd M H v sz rows) (e : rows = rows') : Rd M H v sz rows' := e ▸ h
theorem Rd.all {v : Value} {sz : Nat} {rows : List (List Value)} (h : Rd M [] v sz rows) : Rd M H v sz rows := h.ent Ent.nil

end Go.Proofs.YtmakdilmibjpbacGreat

namespace Go.Proofs.YtmakdilmibjpbacGreat
open Go Go.RowKit
set_option linter.unusedVariables false

variable {P : Program} {F : Exit → Act → World → Prop} {N : Nat} {M : Amb} {env eb : Env} {H H' R : List HP} {a : Act} {w : World} {ops : Array Oper} {o : Oper} {rest : List Oper} {K : List KI}
variable {g gx gy gz : Bool} {x y z : Operand} {v v' u ret : Value} {Rr : Env → List HP → Prop} {f : FuncId} {fn : Func} {Post : Value → List HP → Prop} {T T2 E : TypeId} {k : IntKind} {m n : Int}

/-! ### Parts that hide -/
def exS {α : Type} (L : α → List HP) : HP := fun h => ∃ x, sep (L x) h
theorem Ent.ex {α : Type} {L : α → List HP} (x : α) : Ent (L x ++ R) (exS L :: R) := fun h hx => by
  obtain ⟨a, b, ha, hb, hd, e⟩ := sep_app hx
  exact ⟨h, ⟨a, b, ⟨x, ha⟩, hb, hd, e⟩, Hp.sub_refl h⟩
theorem Own.exS {α : Type} {L : α → List HP} (ho : Own M (Go.Proofs.YtmakdilmibjpbacGreat.exS L :: R) w) : ∃ x, Own M (L x ++ R) w := by
  obtain ⟨hb, hs, h, ⟨a, b, ⟨x, hx⟩, hr, hd, e⟩, hh⟩ := ho
  subst e
  exact ⟨x, hb, hs, _, sep_app' hx hr hd, hh⟩
instance catZ {A : List HP} : Cat A [] A := ⟨List.append_nil A⟩
theorem entPre {A A' : List HP} : ∀ {N : List HP}, Ent A A' → Ent (N ++ A) (N ++ A')
  | [], h => h
  | _ :: N, h => Ent.mono (entPre (N := N) h)
theorem r_cat {A B C : List HP} [c : Cat A B C] (h : Run P F N M K env C) : Run P F N M K env (A ++ B) := by rw [c.eq]; exact h
theorem o_cat {A B C : List HP} [c : Cat A B C] (h : Ops P F N M K ops rest env C) : Ops P F N M K ops rest env (A ++ B) := by rw [c.eq]; exact h
theorem Ent.catI {A B C : List HP} [c : Cat A B C] (h : Ent H C) : Ent H (A ++ B) := by rw [c.eq]; exact h
theorem r_ex {α : Type} {L : α → List HP} (h : ∀ x, Run P F N M K env (L x ++ R)) : Run P F N M K env (exS L :: R) := fun a w hf ho => let ⟨x, hx⟩ := ho.exS; h x a w hf hx
/-! ### Selection that can be undone -/
theorem Ent.unA {X : HP} : ∀ {A B R : List HP}, Ent (X :: R) B → Ent (X :: (A ++ R)) (A ++ B)
  | [], _, _, h => h
  | _ :: A, _, _, h => Ent.tr Ent.swap (Ent.mono (Ent.unA (A := A) h))
class SelY (H : List HP) (X : HP) (R : outParam (List HP)) : Prop where
  ent : Ent H (X :: R)
  back : Ent (X :: R) H
instance selYh {X : HP} : SelY (X :: R) X R := ⟨Ent.h, Ent.h⟩
instance selYt {X Y : HP} {R' : List HP} [s : SelY R X R'] : SelY (Y :: R) X (Y :: R') := ⟨Ent.t s.ent, Ent.tr Ent.swap (Ent.mono s.back)⟩
instance selYa {X : HP} {A B R' : List HP} [s : SelY B X R'] : SelY (A ++ B) X (A ++ R') := ⟨Ent.selA s.ent, Ent.unA s.back⟩
class SelL (H A : List HP) (R : outParam (List HP)) : Prop where
  ent : Ent H (A ++ R)
  back : Ent (A ++ R) H
instance selLn : SelL H [] H := ⟨Ent.rfl, Ent.rfl⟩
instance selLc {X : HP} {A R1 : List HP} [s : SelY H X R1] [t : SelL R1 A R] : SelL H (X :: A) R := ⟨Ent.tr s.ent (Ent.mono t.ent), Ent.tr (Ent.mono t.back) s.back⟩

instance selBc {X : HP} {A B R : List HP} {b : Nat} {cs : List Value} {T : TypeId} [s : SelB (X :: (A ++ B)) b cs T R] : SelB ((X :: A) ++ B) b cs T R := ⟨s.ent⟩
instance selSc {X : HP} {A B R : List HP} {v : Value} {E : TypeId} {sz : Nat} {rows : List (List Value)} [s : SelS (X :: (A ++ B)) v E sz rows R] : SelS ((X :: A) ++ B) v E sz rows R := ⟨s.ent⟩
instance selRc {X : HP} {A B R : List HP} {b : Nat} {E : TypeId} {sz cap : Nat} {rows : List (List Value)} [s : SelR (X :: (A ++ B)) b E sz rows cap R] : SelR ((X :: A) ++ B) b E sz rows cap R := ⟨s.ent⟩
instance selXc {X Y : HP} {A B R : List HP} [s : SelX (X :: (A ++ B)) Y R] : SelX ((X :: A) ++ B) Y R := ⟨s.ent⟩
instance selYc {X Y : HP} {A B R : List HP} [s : SelY (X :: (A ++ B)) Y R] : SelY ((X :: A) ++ B) Y R := ⟨s.ent, s.back⟩

theorem Rd.c1 {sz : Nat} {rows : List (List Value)} (h : Rd M H v sz rows) : v.cells = [v].toArray := by obtain ⟨ao, c, rfl⟩ := h.shape; rfl
theorem Rd.o1 {sz : Nat} {rows : List (List Value)} (h : Rd M H v sz rows) : [v].all (·.oneCell') = true := by obtain ⟨ao, c, rfl⟩ := h.shape; rfl

/-! ### Contracts -/
/-- Whatever lies beside: it gives 'ret', and turns the parts A into A'. -/
def FnC (P : Program) (M : Amb) (f : FuncId) (vs : List Value) (ret : Value) (A A' : List HP) : Prop := ∀ R, FnR P M (A ++ R) f vs (fun v H' => v = ret ∧ H' = A' ++ R)
/-- The same with values that are not told. -/
def FnE {α : Type} (P : Program) (M : Amb) (f : FuncId) (vs : List Value) (A : List HP) (ret : α → Value) (A' : α → List HP) : Prop := ∀ R, FnR P M (A ++ R) f vs (fun v H' => ∃ x, v = ret x ∧ H' = A' x ++ R)
/-- Parts A stay; new ones are made. -/
def FnN {α : Type} (P : Program) (M : Amb) (f : FuncId) (vs : List Value) (A : List HP) (ret : α → Value) (New : α → List HP) : Prop := FnE P M f vs A ret (fun x => New x ++ A)
theorem fnc_intro {c : Code} {vs : List Value} {A A' : List HP} (hf : P.funcs[f]? = some fn) (hb : fn.body = some c) (hN : fn.ntmps = N) (hl : Nat.ble vs.length N = true)
    (h : ∀ R F, Fin P fn M F (fun v H' => v = ret ∧ H' = A' ++ R) → Run P F N M [.code c] (argEnv 0 vs) (A ++ R)) : FnC P M f vs ret A A' := fun R => fn_intro hf hb hN hl (h R)
theorem fne_intro {α : Type} {rt : α → Value} {c : Code} {vs : List Value} {A : List HP} {A' : α → List HP} (hf : P.funcs[f]? = some fn) (hb : fn.body = some c) (hN : fn.ntmps = N) (hl : Nat.ble vs.length N = true)
    (h : ∀ R F, Fin P fn M F (fun v H' => ∃ x, v = rt x ∧ H' = A' x ++ R) → Run P F N M [.code c] (argEnv 0 vs) (A ++ R)) : FnE P M f vs A rt A' := fun R => fn_intro hf hb hN hl (h R)
/-- A contract that turns nothing, at a place where its parts lie. -/
theorem FnC.q {vs : List Value} {A : List HP} (h : FnC P M f vs ret A A) [s : SelL H A R] : FnV P M H f vs ret := fun w ho =>
  (h R w (ho.ent s.ent)).mono fun _ _ ⟨v, H', e, ⟨h1, h2⟩, ho'⟩ => ⟨v, H, e, ⟨h1, rfl⟩, (h2 ▸ ho').ent s.back⟩
/-- A contract over what an object hides, told of the object. -/
theorem FnC.ex {α : Type} {L : α → List HP} {vs : List Value} (h : ∀ x, FnC P M f vs ret (L x) (L x)) : FnC P M f vs ret [Go.Proofs.YtmakdilmibjpbacGreat.exS L] [Go.Proofs.YtmakdilmibjpbacGreat.exS L] := fun R w ho => by
  obtain ⟨x, hx⟩ := (show Own M (Go.Proofs.YtmakdilmibjpbacGreat.exS L :: R) w from ho).exS
  exact (h x R w hx).mono fun _ _ ⟨v, H', e, ⟨h1, h2⟩, ho'⟩ => ⟨v, _, e, ⟨h1, rfl⟩, (h2 ▸ ho').ent (Ent.ex x)⟩
theorem r_rete {α : Type} {rt : α → Value} {A' : α → List HP} {rs : List ResultVar} {vs : List Value} (x : α) (hF : Fin P fn M F (fun v H' => ∃ x, v = rt x ∧ H' = A' x ++ R)) (he : fn.results = rs.toArray) (hr : ResL P M env H rs vs) (hent : Ent H (A' x ++ R)) (hp : resVal vs = rt x) : Run P F N M (.code .ret :: K) env H :=
  r_ret hF he hr hent ⟨x, hp, rfl⟩
theorem r_falle {α : Type} {rt : α → Value} {A' : α → List HP} (x : α) (hF : Fin P fn M F (fun v H' => ∃ x, v = rt x ∧ H' = A' x ++ R)) (he : fn.results = #[]) (hent : Ent H (A' x ++ R)) (hp : Value.tuple #[] = rt x := by rfl) : Run P F N M [] env H :=
  r_fall _ hF he hent ⟨x, hp, rfl⟩
theorem r_fallc {H0 : List HP} (hF : Fin P fn M F (fun v H' => v = ret ∧ H' = H0)) (he : fn.results = #[]) (hent : Ent H H0) (hp : Value.tuple #[] = ret := by rfl) : Run P F N M [] env H := r_fall _ hF he hent ⟨hp, rfl⟩
theorem pv_andf (hg : Gd ops env o g) (hop : o.op = .pick x y (.const (.bool false))) (hx : evo env x = some (gx, .bool false)) (hi : g = true → gx = true) : PV P ops o env g (.bool false) :=
  fun _ _ hf => ⟨hg.wanted hf, fun e w => by have hv := hf.ev hx (hi e); simp only [execOp, hop]; rw [hv]; simp [asBool, Act.eval]⟩
theorem pv_ort (hg : Gd ops env o g) (hop : o.op = .pick x (.const (.bool true)) y) (hx : evo env x = some (gx, .bool true)) (hi : g = true → gx = true) : PV P ops o env g (.bool true) :=
  fun _ _ hf => ⟨hg.wanted hf, fun e w => by have hv := hf.ev hx (hi e); simp only [execOp, hop]; rw [hv]; simp [asBool, Act.eval]⟩
theorem exec_ung (ev : Operand → Value) (o : Oper) : execOp ev (ung o) = execOp ev o := by cases o; rfl
theorem pv_ung (hg : Gd ops env o g) (e : g = true) (h : PV P ops (ung o) env true v) : PV P ops o env true v := fun N a hf => ⟨e ▸ hg.wanted hf, fun _ w => by have := (h N a hf).2 rfl w; rwa [exec_ung] at this⟩
theorem rv_ung (hg : Gd ops env o g) (e : g = true) (h : RV P M ops (ung o) env H true v) : RV P M ops o env H true v := fun N a w hf ho => ⟨e ▸ hg.wanted hf, fun _ => by have := (h N a w hf ho).2 rfl; rwa [exec_ung] at this⟩
theorem rq_ung (hg : Gd ops env o g) (e : g = true) (h : RQ P M ops (ung o) env H true v) : RQ P M ops o env H true v := fun N a w hf ho => ⟨e ▸ hg.wanted hf, fun _ Kc Q hK => by
  have := (h N a w hf ho).2 rfl Kc Q hK
  unfold Oper.wp at this ⊢
  rw [exec_ung] at this
  exact this⟩
section short
variable {d : Nat} {ty : TypeId} {ps : String} {af : Array Edge} {A A' C : List HP} {xs : List Operand} {vs : List Value} {at' : Array TypeId}
theorem p_callc [s : SelL H A R] [c : Cat A' R C] (cf : cfB P f = true) (ha : Args env xs vs) (hN : Nat.blt d N = true) (hc : FnC P M f vs ret A A') (h : Ops P F N M K ops rest ((d, true, ret) :: env) C) :
    Ops P F N M K ops (⟨some d, .call { callee := .value (.func f), args := xs.toArray, argTypes := at' }, ty, ps, af, Option.none⟩ :: rest) env H :=
  p_call cf ha hN (FnR.pre s.ent (hc R)) (by rintro _ _ ⟨rfl, rfl⟩; rw [c.eq]; exact h)
theorem p_calle {α : Type} {rt : α → Value} {A' : α → List HP} [s : SelL H A R] (cf : cfB P f = true) (ha : Args env xs vs) (hN : Nat.blt d N = true) (hc : FnE P M f vs A rt A') (h : ∀ x, Ops P F N M K ops rest ((d, true, rt x) :: env) (A' x ++ R)) :
    Ops P F N M K ops (⟨some d, .call { callee := .value (.func f), args := xs.toArray, argTypes := at' }, ty, ps, af, Option.none⟩ :: rest) env H :=
  p_call cf ha hN (FnR.pre s.ent (hc R)) (by rintro _ _ ⟨x, rfl, rfl⟩; exact h x)
/-- A guard that lets it run; one that does not. -/
theorem o_g {dd : Option Nat} {op : Op} {gd : Option (Nat × Bool)} (hg : Gd ops env ⟨dd, op, ty, ps, af, gd⟩ g) (e : g = true) (h : Ops P F N M K ops (⟨dd, op, ty, ps, af, Option.none⟩ :: rest) env H) :
    Ops P F N M K ops (⟨dd, op, ty, ps, af, gd⟩ :: rest) env H := fun a w hf ho => by
  subst e
  have h1 := h a w hf ho
  simp only [wpList] at h1 ⊢
  rw [hg.wanted hf]
  have h2 : Region.wanted (⟨dd, op, ty, ps, af, Option.none⟩ : Oper) (yielded ops a.tmps) = true := by simp [Region.wanted]
  rw [h2] at h1
  exact h1
theorem o_ng {op : Op} {gd : Option (Nat × Bool)} (hg : Gd ops env ⟨some d, op, ty, ps, af, gd⟩ g) (e : g = false) (hN : Nat.blt d N = true) (h : Ops P F N M K ops rest ((d, false, .bool false) :: env) H) :
    Ops P F N M K ops (⟨some d, op, ty, ps, af, gd⟩ :: rest) env H := o_pass (by subst e; exact hg) rfl hN h
end short

/-! ### Barriers: an operation that waits for all that is in the plan -/
def barB (ops : Array Oper) (p : Plan) (i : Nat) : Bool := match ops[i]? with
  | some o => let r := reachL ops i (onsOf o); p.all fun e => r.contains e.1
  | Option.none => false
variable {E0 : Env} {Hq He : List HP} {p : Plan} {eff : List Nat}
/-- The next of the plan waits for all of it: all that is owned may be turned. -/
theorem qm_bar {i : Nat} {l : List Src} (hac : acB ops = true) (hds : dstB ops = true) (hi : ops[i]? = some o) (hn : getP p i = Option.none) (hs : srcB ops i l = true) (hrest : restB ops p i = true) (hbar : barB ops p i = true) (hg : GdW ops (srcEnv p E0 l) o)
    (hx : ∀ a w (Kc : Act → World → Prop) (Q : Exit → Act → World → Prop), Fits N (srcEnv p E0 l) a → Own M (He ++ Hq) w →
      (∀ x Hn w', entOk N o x → Own M Hn w' → QM P F N M K ops E0 [] ((i, x) :: p) (i :: p.map (·.1)) Hn →
        Kc (putE a x) w') → o.wp P a w Kc Q) : QM P F N M K ops E0 Hq p eff He := by
  intro hQ hD fuel
  induction fuel with
  | zero =>
    intro listed a w s hu he ho
    exfalso
    have hlt := (Array.getElem?_eq_some_iff.1 hi).1
    have hni : listed.getD i true = false := by
      cases hl : listed.getD i false with
      | true => obtain ⟨x, hx, _⟩ := s.ent i hl; rw [hn] at hx; cases hx
      | false =>
        have : i < listed.size := by rw [s.lsz]; exact hlt
        simp [this] at hl ⊢; exact hl
    have := unl_set hlt hni
    omega
  | succ fuel ih =>
    intro listed a w s hu he ho
    have hlt := (Array.getElem?_eq_some_iff.1 hi).1
    have hnl : listed.getD i false = false := by
      cases hl : listed.getD i false with
      | true => obtain ⟨x, hx, _⟩ := s.ent i hl; rw [hn] at hx; cases hx
      | false => rfl
    have hni : listed.getD i true = false := by
      have : i < listed.size := by rw [s.lsz]; exact hlt
      simp [this] at hnl ⊢; exact hnl
    refine ⟨fun hnil => absurd hnil (ready_ne hac s.lsz i hlt hni), fun j hj => ?_⟩
    obtain ⟨h0, oj, hoj, hon⟩ := ready_lt hj
    by_cases hji : j = i
    · subst hji
      rw [hi] at hoj; cases hoj
      have hfit := s.fits hj hs
      have hw : Region.wanted o (yielded ops a.tmps) = true := hg.wtd hfit
      unfold wpOp
      simp only [hi]
      rw [hw, if_pos rfl]
      refine .inl (hx a w _ _ hfit ho fun x Hn w' hxd ho' hqm => ?_)
      have hxm : o.dst = x.map (·.1) := by
        cases x with
        | none => exact hxd
        | some e => exact hxd.1
      have hst := St.step (x := x) hds (s.cons (e := x) hn) hj hi (by simp [getP]) (fun q hq d' g' v' hq' => by
        rcases getP_cons' hq' with ⟨rfl, h⟩ | h
        · exact ⟨o, hi, by rw [hxm, ← h]; rfl⟩
        · exact hD q _ h) hxd
      have hall : ∀ q ∈ p.map (·.1), listed.getD q false = true := by
        intro q hq
        obtain ⟨e, he', rfl⟩ := List.mem_map.1 hq
        simp only [barB, hi] at hbar
        have hc := List.all_eq_true.1 hbar e he'
        refine reachL_ok (ops := ops) (Q := fun j => listed.getD j false = true) (fun i' h j' hj' => s.down i' h j' hj') j (onsOf o) (fun j' hj' => ?_) e.1 (List.contains_iff_mem.1 hc)
        exact hon j' (by simp only [onB, hi]; exact List.contains_iff_mem.2 hj')
      refine hqm (fun q y hq => ?_) (fun q y hq' => ?_) fuel _ _ w' hst (by have := unl_set hlt hni; omega) (fun q hq => ?_) (by rw [List.append_nil]; exact ho')
      · rcases getP_cons' hq with ⟨rfl, _⟩ | hq
        · exact .inl (by simp)
        · exact .inl (by simp only [List.mem_cons]; exact .inr (List.mem_map.2 ⟨_, getP_mem hq, rfl⟩))
      · rcases getP_cons' hq' with ⟨rfl, rfl⟩ | h
        · exact ⟨o, hi, hxm⟩
        · exact hD q y h
      · rw [getD_set (by rw [s.lsz]; exact hlt)]
        rcases List.mem_cons.1 hq with rfl | hq
        · exact .inl rfl
        · exact .inr (hall q hq)
    · cases hp : getP p j with
      | none =>
        exfalso
        have hjlt := (Array.getElem?_eq_some_iff.1 hoj).1
        have := List.all_eq_true.1 hrest j (by simpa using hjlt)
        rw [hp, Option.isSome_none, Bool.or_false] at this
        rcases Bool.or_eq_true_iff.1 this with h | h
        · exact hji (beq_iff_eq.1 h)
        · rw [rest_ok s.down hon h] at hnl; cases hnl
      | some x =>
        rcases hQ j x hp with h | h
        · have := he j h
          rw [not_listed h0] at this; cases this
        · refine run_quiet hds hD s hj h ho fun a' w' s' ho' => ?_
          have hjlt := (Array.getElem?_eq_some_iff.1 hoj).1
          refine ih _ a' w' s' (by have := unl_set hjlt h0; omega) (fun q hq => ?_) ho'
          rw [getD_set (by rw [s.lsz]; exact hjlt)]
          exact .inr (he q hq)

theorem qb_e {i d : Nat} (l : List Src) (hac : acB ops = true) (hds : dstB ops = true) (hi : ops[i]? = some o) (hn : getP p i = Option.none) (hd : o.dst = some d) (hN : Nat.blt d N = true) (hs : srcB ops i l = true) (hrest : restB ops p i = true) (hbar : barB ops p i = true) (hg : GdW ops (srcEnv p E0 l) o)
    (hx : OpX P N M ops o (srcEnv p E0 l) (He ++ Hq) (fun e h => ∃ v, look e d = some (true, v) ∧ QM P F N M K ops E0 [] ((i, some (d, true, v)) :: p) (i :: p.map (·.1)) h)) : QM P F N M K ops E0 Hq p eff He :=
  qm_bar (l := l) hac hds hi hn hs hrest hbar hg fun a w Kc Q hf ho hk => by
    have hw : Region.wanted o (yielded ops a.tmps) = true := hg.wtd hf
    have h := hx a w Kc Q hf ho (fun env' H' u w' hR hf' ho' => by
      obtain ⟨v, hlook, hqm⟩ := hR
      have hdN : d < N := by simpa using hN
      have hu' : u = v := by
        have := hf'.ok d true v hlook
        rw [hd] at this
        have hd' : d < a.tmps.size := by rw [hf.sz]; exact hdN
        simpa [Act.put, hd'] using this
      subst hu'
      rw [hd]
      exact hk (some (d, true, u)) H' w' ⟨hd, hdN⟩ ho' hqm)
    rw [hw, if_pos rfl] at h
    exact h
theorem qb_s {i : Nat} (l : List Src) (hac : acB ops = true) (hds : dstB ops = true) (hi : ops[i]? = some o) (hn : getP p i = Option.none) (hd : o.dst = Option.none) (hs : srcB ops i l = true) (hrest : restB ops p i = true) (hbar : barB ops p i = true) (hg : GdW ops (srcEnv p E0 l) o)
    (hx : OpX P N M ops o (srcEnv p E0 l) (He ++ Hq) (fun _ h => QM P F N M K ops E0 [] ((i, Option.none) :: p) (i :: p.map (·.1)) h)) : QM P F N M K ops E0 Hq p eff He :=
  qm_bar (l := l) hac hds hi hn hs hrest hbar hg fun a w Kc Q hf ho hk => by
    have hw : Region.wanted o (yielded ops a.tmps) = true := hg.wtd hf
    have h := hx a w Kc Q hf ho (fun env' H' u w' hR hf' ho' => by
      rw [hd]
      exact hk Option.none H' w' hd ho' hR)
    rw [hw, if_pos rfl] at h
    exact h
section drawn
variable {d i : Nat} {A A' C H2 : List HP} {xs : List Operand} {vs : List Value} {at' : Array TypeId}
theorem qb_store {b j n : Nat} {T T' : TypeId} {cs cs' vs : List Value} {x y : Operand} {Re : List HP} (hsz : SizeIs P T n) (l : List Src) (hac : acB ops = true) (hds : dstB ops = true) (hi : ops[i]? = some o) (hn : getP p i = Option.none) (hd : o.dst = Option.none) (hs : srcB ops i l = true) (hrest : restB ops p i = true) (hbar : barB ops p i = true) (hg : GdW ops (srcEnv p E0 l) o)
    [c : Cat He Hq H2] (hop : o.op = .store T x y) (hx : evo (srcEnv p E0 l) x = some (true, .pointer (some ⟨b, j, Option.none⟩))) [s : SelB H2 b cs T' Re] (hy : evo (srcEnv p E0 l) y = some (true, u)) (hu : u.cells = vs.toArray) (hvn : vs.length = n) (h1 : vs.all (·.oneCell') = true) (hin : Ins cs j vs cs')
    (h : QM P F N M K ops E0 [] ((i, Option.none) :: p) (i :: p.map (·.1)) (blk b cs' T' :: Re)) : QM P F N M K ops E0 Hq p eff He :=
  qb_s l hac hds hi hn hd hs hrest hbar hg (hg.opx (x_store (o := (ung o)) hsz (by rw [c.eq]; exact s.ent) hop rfl hd hx hy hu hvn h1 hin h))
theorem qb_callc (l : List Src) (hac : acB ops = true) (hds : dstB ops = true) (hi : ops[i]? = some o) (hn : getP p i = Option.none) (hd : o.dst = some d) (hN : Nat.blt d N = true) (hs : srcB ops i l = true) (hrest : restB ops p i = true) (hbar : barB ops p i = true) (hg : GdW ops (srcEnv p E0 l) o)
    [c1 : Cat He Hq H2] (cf : cfB P f = true) (hop : o.op = .call { callee := .value (.func f), args := xs.toArray, argTypes := at' }) (ha : Args (srcEnv p E0 l) xs vs) [s : SelL H2 A R] [c : Cat A' R C] (hc : FnC P M f vs ret A A')
    (h : QM P F N M K ops E0 [] ((i, some (d, true, ret)) :: p) (i :: p.map (·.1)) C) : QM P F N M K ops E0 Hq p eff He :=
  qb_e l hac hds hi hn hd hN hs hrest hbar hg (hg.opx (x_call (o := (ung o)) cf hop rfl hd hN ha (FnR.pre (by rw [c1.eq]; exact s.ent) (hc R)) (by rintro _ _ ⟨rfl, rfl⟩; rw [c.eq]; exact ⟨_, by simp [look], h⟩)))
theorem qb_calle {α : Type} {rt : α → Value} {A' : α → List HP} (l : List Src) (hac : acB ops = true) (hds : dstB ops = true) (hi : ops[i]? = some o) (hn : getP p i = Option.none) (hd : o.dst = some d) (hN : Nat.blt d N = true) (hs : srcB ops i l = true) (hrest : restB ops p i = true) (hbar : barB ops p i = true) (hg : GdW ops (srcEnv p E0 l) o)
    [c1 : Cat He Hq H2] (cf : cfB P f = true) (hop : o.op = .call { callee := .value (.func f), args := xs.toArray, argTypes := at' }) (ha : Args (srcEnv p E0 l) xs vs) [s : SelL H2 A R] (hc : FnE P M f vs A rt A')
    (h : ∀ x, QM P F N M K ops E0 [] ((i, some (d, true, rt x)) :: p) (i :: p.map (·.1)) (A' x ++ R)) : QM P F N M K ops E0 Hq p eff He :=
  qb_e l hac hds hi hn hd hN hs hrest hbar hg (hg.opx (x_call (o := (ung o)) cf hop rfl hd hN ha (FnR.pre (by rw [c1.eq]; exact s.ent) (hc R)) (by rintro _ _ ⟨x, rfl, rfl⟩; exact ⟨_, by simp [look], h x⟩)))
/-- An effect's call within He. -/
theorem qm_callc (l : List Src) (hac : acB ops = true) (hds : dstB ops = true) (hi : ops[i]? = some o) (hn : getP p i = Option.none) (hd : o.dst = some d) (hN : Nat.blt d N = true) (hs : srcB ops i l = true) (hrest : restB ops p i = true) (hg : GdW ops (srcEnv p E0 l) o)
    (cf : cfB P f = true) (hop : o.op = .call { callee := .value (.func f), args := xs.toArray, argTypes := at' }) (ha : Args (srcEnv p E0 l) xs vs) [s : SelL He A R] [c : Cat A' R C] (hc : FnC P M f vs ret A A')
    (h : QM P F N M K ops E0 Hq ((i, some (d, true, ret)) :: p) (i :: eff) C) : QM P F N M K ops E0 Hq p eff He :=
  qm_e l hac hds hi hn hd hN hs hrest hg (hg.opx (x_call (o := (ung o)) cf hop rfl hd hN ha (FnR.pre (Ent.app (A' := A ++ R) s.ent) (by rw [List.append_assoc]; exact hc (R ++ Hq))) (by rintro _ _ ⟨rfl, rfl⟩; exact ⟨_, C, by simp [look], by rw [← c.eq, List.append_assoc], h⟩)))
theorem qm_calle {α : Type} {rt : α → Value} {A' : α → List HP} (l : List Src) (hac : acB ops = true) (hds : dstB ops = true) (hi : ops[i]? = some o) (hn : getP p i = Option.none) (hd : o.dst = some d) (hN : Nat.blt d N = true) (hs : srcB ops i l = true) (hrest : restB ops p i = true) (hg : GdW ops (srcEnv p E0 l) o)
    (cf : cfB P f = true) (hop : o.op = .call { callee := .value (.func f), args := xs.toArray, argTypes := at' }) (ha : Args (srcEnv p E0 l) xs vs) [s : SelL He A R] (hc : FnE P M f vs A rt A')
    (h : ∀ x, QM P F N M K ops E0 Hq ((i, some (d, true, rt x)) :: p) (i :: eff) (A' x ++ R)) : QM P F N M K ops E0 Hq p eff He :=
  qm_e l hac hds hi hn hd hN hs hrest hg (hg.opx (x_call (o := (ung o)) cf hop rfl hd hN ha (FnR.pre (Ent.app (A' := A ++ R) s.ent) (by rw [List.append_assoc]; exact hc (R ++ Hq))) (by rintro _ _ ⟨x, rfl, rfl⟩; exact ⟨_, A' x ++ R, by simp [look], by rw [List.append_assoc], h x⟩)))
/-- A call that reads what lies anywhere, and makes new parts. -/
theorem qm_calln {α : Type} {rt : α → Value} {New : α → List HP} (l : List Src) (hac : acB ops = true) (hds : dstB ops = true) (hi : ops[i]? = some o) (hn : getP p i = Option.none) (hd : o.dst = some d) (hN : Nat.blt d N = true) (hs : srcB ops i l = true) (hrest : restB ops p i = true) (hg : GdW ops (srcEnv p E0 l) o)
    (cf : cfB P f = true) (hop : o.op = .call { callee := .value (.func f), args := xs.toArray, argTypes := at' }) (ha : Args (srcEnv p E0 l) xs vs) [s : SelL (He ++ Hq) A R] (hc : FnN P M f vs A rt New)
    (h : ∀ x, QM P F N M K ops E0 Hq ((i, some (d, true, rt x)) :: p) (i :: eff) (New x ++ He)) : QM P F N M K ops E0 Hq p eff He :=
  qm_e l hac hds hi hn hd hN hs hrest hg (hg.opx (x_call (o := (ung o)) (Post := fun v H' => ∃ x, v = rt x ∧ H' = New x ++ (He ++ Hq)) cf hop rfl hd hN ha (fun w ho => (hc R w (ho.ent s.ent)).mono fun _ _ ⟨v, H', e, ⟨x, h1, h2⟩, ho'⟩ => ⟨v, _, e, ⟨x, h1, rfl⟩, by
    subst h2
    rw [List.append_assoc] at ho'
    exact ho'.ent (entPre s.back)⟩) (by rintro _ _ ⟨x, rfl, rfl⟩; exact ⟨_, New x ++ He, by simp [look], by rw [List.append_assoc], h x⟩)))
/-- A part that is new is kept from now on. -/
theorem qm_keep {X : HP} (h : QM P F N M K ops E0 (X :: Hq) p eff He) : QM P F N M K ops E0 Hq p eff (X :: He) := fun hQ hD fuel listed a w st hu he ho =>
  h (fun i x hi => (hQ i x hi).imp id fun ⟨o, d, g, v, l, h1, h2, h3, h4, h5, h6, h7⟩ => ⟨o, d, g, v, l, h1, h2, h3, h4, h5, h6, fun He' => by
    have := h7 (He' ++ [X])
    rw [List.append_assoc] at this
    exact this⟩) hD fuel listed a w st hu he (ho.ent (by
      have h1 : Ent ((X :: He) ++ Hq) (X :: (He ++ Hq)) := Ent.rfl
      exact Ent.tr h1 (Ent.unA (Ent.rfl (H := X :: Hq)))))
theorem qm_rd (v : Value) {sz : Nat} {rows : List (List Value)} [s : SelS He v E sz rows R] (h : Rd M [sl v E sz rows] v sz rows → QM P F N M K ops E0 Hq p eff He) : QM P F N M K ops E0 Hq p eff He := fun hQ hD fuel listed a w st hu he ho =>
  h (sl_rd (ho.ent (Ent.tr (Ent.app (A' := sl v E sz rows :: R) s.ent) (Ent.rfl)))) hQ hD fuel listed a w st hu he ho
theorem qm_cat [c : Cat A A' C] (h : QM P F N M K ops E0 Hq p eff C) : QM P F N M K ops E0 Hq p eff (A ++ A') := by rw [c.eq]; exact h
end drawn

end Go.Proofs.YtmakdilmibjpbacGreat

namespace Go.Proofs.YtmakdilmibjpbacGreat
open Go Go.RowKit
set_option linter.unusedVariables false
set_option linter.unusedSimpArgs false

variable {P : Program} {F : Exit → Act → World → Prop} {N : Nat} {M : Amb} {env eb : Env} {H H' R : List HP} {a : Act} {w : World} {ops : Array Oper} {o : Oper} {rest : List Oper} {K : List KI}
variable {g gx gy gz : Bool} {x y z : Operand} {v v' u ret : Value} {Rr : Env → List HP → Prop} {f : FuncId} {fn : Func} {T T2 E : TypeId} {k : IntKind} {m n : Int}

theorem pv_to (h : PV P ops o env g v) (e : v = v') : PV P ops o env g v' := e ▸ h

theorem run_slice3 {ao : Option Addr} {len cap l h mx : Nat} {lo hi mo : Option Value} (hT : P.underlying T = some (.slice E)) {sz : Nat} (hE : SizeIs P E sz) (hlo : lo = Option.none ∧ l = 0 ∨ ∃ kk, lo = some (.int kk (l : Int))) (hhi : hi = Option.none ∧ h = len ∨ ∃ kk, hi = some (.int kk (h : Int)))
    (hmo : mo = Option.none ∧ mx = cap ∨ ∃ kk, mo = some (.int kk (mx : Int))) (hn : hi = Option.none → mo = Option.none) (h1 : l ≤ h) (h2 : h ≤ mx) (h3 : mx ≤ cap) (w : World) :
    ∃ ao', (Instr.slice T (.slice ao len cap) lo hi mo).run P w = .ok (.slice ao' (h - l) (mx - l)) w ∧ (ao' = if mx = l then ao else ao.map (·.add (l * sz))) := by
  obtain ⟨inf, h4, h5⟩ := hE
  refine ⟨_, ?_, rfl⟩
  have h6 : h ≤ cap := by omega
  have h7 : l ≤ mx := by omega
  have h8 : l ≤ cap := by omega
  rcases hlo with ⟨rfl, rfl⟩ | ⟨kk, rfl⟩ <;> rcases hhi with ⟨rfl, rfl⟩ | ⟨kk', rfl⟩ <;> rcases hmo with ⟨rfl, rfl⟩ | ⟨kk2, rfl⟩ <;>
    first | (exfalso; simp at hn; done) | simp [Instr.slice, run_und hT, Instr.sliceBounds, Instr.sliceBound, asIntOf, sizeOf, run_info h4, h5, h1, h2, h3, h6, h7, h8]

/-- A slice of a slice that is written out. -/
theorem pv_slcl {sz l h len cap mx : Nat} {ao : Option Addr} {lo hi mo : Option Operand} {lv hv mv : Option Value} (hT : P.underlying T = some (.slice E)) (hE : SizeIs P E sz) (h1 : l ≤ h) (h2 : h ≤ mx) (h3 : mx ≤ cap) (hgd : o.guard = Option.none) (hop : o.op = .slice T x lo hi mo) (hx : evo env x = some (true, .slice ao len cap))
    (hlo : lo = Option.none ∧ lv = Option.none ∧ l = 0 ∨ ∃ y kk, lo = some y ∧ evo env y = some (true, .int kk (l : Int)) ∧ lv = some (.int kk (l : Int))) (hhi : hi = Option.none ∧ hv = Option.none ∧ h = len ∨ ∃ y kk, hi = some y ∧ evo env y = some (true, .int kk (h : Int)) ∧ hv = some (.int kk (h : Int)))
    (hmo : mo = Option.none ∧ mv = Option.none ∧ mx = cap ∨ ∃ y kk, mo = some y ∧ evo env y = some (true, .int kk (mx : Int)) ∧ mv = some (.int kk (mx : Int))) (hn : hv = Option.none → mv = Option.none) :
    PV P ops o env true (.slice (if mx = l then ao else ao.map (·.add (l * sz))) (h - l) (mx - l)) := fun _ a hf => ⟨(Gd.n hgd).wanted hf, fun _ w => by
  have e1 : lo.map a.eval = lv := by
    rcases hlo with ⟨rfl, rfl, _⟩ | ⟨y, kk, rfl, hy, rfl⟩
    · rfl
    · simp [hf.ev hy rfl]
  have e2 : hi.map a.eval = hv := by
    rcases hhi with ⟨rfl, rfl, _⟩ | ⟨y, kk, rfl, hy, rfl⟩
    · rfl
    · simp [hf.ev hy rfl]
  have e3 : mo.map a.eval = mv := by
    rcases hmo with ⟨rfl, rfl, _⟩ | ⟨y, kk, rfl, hy, rfl⟩
    · rfl
    · simp [hf.ev hy rfl]
  obtain ⟨ao', hrun, rfl⟩ := run_slice3 (P := P) (ao := ao) (len := len) (cap := cap) (l := l) (h := h) (mx := mx) (lo := lv) (hi := hv) (mo := mv) hT hE (by
    rcases hlo with ⟨_, h, h'⟩ | ⟨_, kk, _, _, h⟩
    · exact .inl ⟨h, h'⟩
    · exact .inr ⟨kk, h⟩) (by
    rcases hhi with ⟨_, h, h'⟩ | ⟨_, kk, _, _, h⟩
    · exact .inl ⟨h, h'⟩
    · exact .inr ⟨kk, h⟩) (by
    rcases hmo with ⟨_, h, h'⟩ | ⟨_, kk, _, _, h⟩
    · exact .inl ⟨h, h'⟩
    · exact .inr ⟨kk, h⟩) hn h1 h2 h3 w
  simp [execOp, hop, hf.ev hx rfl, Instr.sliceAt, run_und hT, e1, e2, e3, hrun]⟩

theorem flat_takeEq {sz l : Nat} {rows : List (List Value)} (hok : RowsOk sz rows) (h : l ≤ rows.length) : (rows.take l).flatten = rows.flatten.take (l * sz) := by
  have e := List.take_append_drop l rows
  have hl : (rows.take l).flatten.length = l * sz := by
    rw [flat_len hok.take, List.length_take, Nat.min_eq_left h]
  conv => rhs; rw [← e, flat_app, ← hl, List.take_left]

/-- An append that has room in an array of one's own, over what stood behind. -/
theorem x_append_in {b sz bytes d l1 cap : Nat} {rows rows2 : List (List Value)} (hT : P.underlying T = some (.slice E)) (hE : EL P E sz bytes) (he : Ent H (arr b E sz rows cap :: R)) (hr : Rd M H u sz rows2) (hsome : ∃ A m c, u = .slice (some A) m c ∧ A.spot = Option.none)
    (hroom : l1 + rows2.length ≤ cap) (hl1 : l1 ≤ rows.length)
    (hop : o.op = .call { callee := .builtin .append, args := #[x, y], argTypes := #[T, T] }) (hgd : o.guard = Option.none) (hd : o.dst = some d) (hN : Nat.blt d N = true) (hx : evo env x = some (true, .slice (some ⟨b, 0, Option.none⟩) l1 cap)) (hy : evo env y = some (true, u))
    (h : Rr ((d, true, .slice (some ⟨b, 0, Option.none⟩) (l1 + rows2.length) cap) :: env) (arr b E sz (rows.take l1 ++ rows2) cap :: R)) : OpX P N M ops o env H Rr := fun a w Kc Q hf ho hK => by
  have hw : Region.wanted o (yielded ops a.tmps) = true := by simp [Region.wanted, hgd]
  rw [hw, if_pos rfl]
  obtain ⟨i, z, hi, hz, q1, q2, q3⟩ := hE.is
  subst q1
  obtain ⟨A, m, c, rfl, hs⟩ := hsome
  obtain ⟨ao, cap2, e, hc1, hc2, hc3, hc4⟩ := hr.is
  cases e
  obtain ⟨b2, off2, spot2⟩ := A
  simp at hs; subst hs
  have hnews : ∀ j u, rows2.flatten[j]? = some u → w.cell? ((⟨b2, off2, Option.none⟩ : Addr).add j) = some u := fun j u hu => by
    rw [addr_add]
    refine (hc4 _ rfl ?_).2 w ho j u hu
    cases rows2 with
    | nil => simp at hu
    | cons _ _ => simp
  obtain ⟨sp, ho3, r1, r2, r3, r4⟩ := (ho.ent he).arrE
  have hl2 : rows2.flatten.length = rows2.length * i.size := flat_len hr.ok
  have hfit : l1 * i.size + rows2.flatten.length ≤ (rows.flatten ++ sp).length := by rw [r4, hl2, ← Nat.add_mul]; exact Nat.mul_le_mul_right _ hroom
  have hrun := run_append_room (P := P) w T o.type E i hT hi b l1 cap _ ho3.blk.2 ⟨b2, off2, Option.none⟩ rows2.length c rows2.flatten hl2 hnews hr.ok.one hroom (by simpa using hfit)
  have hrf : rows.flatten.length = rows.length * i.size := flat_len r1
  have hle : l1 * i.size ≤ rows.flatten.length := by rw [hrf]; exact Nat.mul_le_mul_right _ hl1
  have hlist : (rows.flatten ++ sp).take (l1 * i.size) ++ rows2.flatten ++ (rows.flatten ++ sp).drop (l1 * i.size + rows2.flatten.length) = (rows.take l1 ++ rows2).flatten ++ (rows.flatten ++ sp).drop (l1 * i.size + rows2.flatten.length) := by
    rw [flat_app, flat_takeEq r1 hl1, List.take_append_of_le_length hle]
  have hput := setRow_own (cs' := (rows.take l1 ++ rows2).flatten ++ (rows.flatten ++ sp).drop (l1 * i.size + rows2.flatten.length)) ho3
  have hx' := hf.ev hx rfl
  have hr' : (execOp a.eval o).run P w = .ok (.value (.slice (some ⟨b, 0, Option.none⟩) (l1 + rows2.length) cap)) (w.setRow b ((rows.take l1 ++ rows2).flatten ++ (rows.flatten ++ sp).drop (l1 * i.size + rows2.flatten.length)).toArray) := by
    have e1 : (execOp a.eval o).run P w = ((Builtin.append_ #[T, T] o.type #[.slice (some ⟨b, 0, Option.none⟩) l1 cap, .slice (some ⟨b2, off2, Option.none⟩) rows2.length c]).run P w).andThen (fun v w' => .ok (.value v) w') := by
      simp [execOp, hop, resolve, invoke, builtin, hx', hf.ev hy rfl]
    rw [e1, hrun, ← hlist]
    rfl
  simp only [Oper.wp, hr', Oper.upon_value]
  have hlen : (rows.take l1 ++ rows2).length = l1 + rows2.length := by simp [Nat.min_eq_left hl1]
  refine hK _ _ _ _ h (by rw [hd]; exact hf.put hN true _) (hput.arrI (r1.take.app hr.ok) (by rw [hlen]; exact hroom) r3 ?_)
  rw [flat_app, List.length_append, List.length_append, List.length_drop, hl2, flat_takeEq r1 hl1, List.length_take, Nat.min_eq_left hle]
  rw [hl2] at hfit
  rw [r4] at hfit ⊢
  omega

/-- A clear of the spare room of an array of one's own. -/
theorem x_clear {b sz bytes l m c cap : Nat} {rows : List (List Value)} {ao : Option Addr} (hT : P.underlying T = some (.slice E)) (hE : EL P E sz bytes) (he : Ent H (arr b E sz rows cap :: R)) (h1 : rows.length ≤ l) (h2 : l + m ≤ cap) (hz1 : ∀ z, (P.info? E).bind (·.zero) = some z → ∀ v ∈ z.cells.toList, v.oneCell' = true)
    (hop : o.op = .call { callee := .builtin .clear, args := #[x], argTypes := #[T] }) (hgd : o.guard = Option.none) (hd : o.dst = Option.none) (hx : evo env x = some (true, .slice ao m c)) (hao : 0 < m → ao = some ⟨b, l * sz, Option.none⟩)
    (h : Rr env (arr b E sz rows cap :: R)) : OpX P N M ops o env H Rr := fun a w Kc Q hf ho hK => by
  have hw : Region.wanted o (yielded ops a.tmps) = true := by simp [Region.wanted, hgd]
  rw [hw, if_pos rfl]
  have hx' := hf.ev hx rfl
  obtain ⟨i, z, hi, hz, q1, q2, q3⟩ := hE.is
  subst q1
  obtain ⟨sp, ho3, r1, r2, r3, r4⟩ := (ho.ent he).arrE
  by_cases hm : m = 0
  · subst hm
    have hr' : (execOp a.eval o).run P w = .ok (.value (.tuple #[])) w := by
      cases ao <;> simp [execOp, hop, resolve, invoke, builtin, hx', Builtin.clear_, run_und hT]
    simp only [Oper.wp, hr', Oper.upon_value]
    exact hK _ _ _ _ h (by simpa [Act.put, hd] using hf) (ho.ent he)
  · have hao' := hao (by omega)
    subst hao'
    have hzl : (Builtin.zeroCells z.cells m).toList.length = m * i.size := by
      have := size_zeroCells z.cells m
      rw [Array.length_toList, this, q3]
    have hzo : ∀ v ∈ (Builtin.zeroCells z.cells m).toList, v.oneCell' = true := by
      intro v hv
      simp only [Builtin.zeroCells, Array.toList_map, List.mem_map, Array.toList_range, List.mem_range] at hv
      obtain ⟨j, hj, rfl⟩ := hv
      have hpos : 0 < z.cells.size := by
        rcases Nat.eq_zero_or_pos z.cells.size with h0 | h0
        · rw [h0] at hj; simp at hj
        · exact h0
      have hlt := Nat.mod_lt j hpos
      refine hz1 z (by rw [hi]; exact hz) _ ?_
      rw [getElem!_pos z.cells (j % z.cells.size) hlt]
      exact Array.mem_toList_iff.2 (Array.getElem_mem hlt)
    have hrf : rows.flatten.length = rows.length * i.size := flat_len r1
    have hge : rows.flatten.length ≤ l * i.size := by rw [hrf]; exact Nat.mul_le_mul_right _ h1
    have hfit : l * i.size + 0 + (Builtin.zeroCells z.cells m).toList.length ≤ (rows.flatten ++ sp).toArray.size := by
      rw [hzl, Nat.add_zero, ← Nat.add_mul, List.size_toArray, r4]; exact Nat.mul_le_mul_right _ h2
    have hst := run_storeCells_at (P := P) b (l * i.size) E (Builtin.zeroCells z.cells m).toList 0 _ w ho3.blk.2 hfit hzo
    simp only [Nat.add_zero] at hst
    have hlist : (rows.flatten ++ sp).take (l * i.size) ++ (Builtin.zeroCells z.cells m).toList ++ (rows.flatten ++ sp).drop (l * i.size + (Builtin.zeroCells z.cells m).toList.length) =
        rows.flatten ++ (sp.take (l * i.size - rows.flatten.length) ++ (Builtin.zeroCells z.cells m).toList ++ (rows.flatten ++ sp).drop (l * i.size + (Builtin.zeroCells z.cells m).toList.length)) := by
      rw [List.take_append, List.take_of_length_le hge]
      simp
    have hput := setRow_own (cs' := rows.flatten ++ (sp.take (l * i.size - rows.flatten.length) ++ (Builtin.zeroCells z.cells m).toList ++ (rows.flatten ++ sp).drop (l * i.size + (Builtin.zeroCells z.cells m).toList.length))) ho3
    rw [hlist] at hst
    have hr' : (execOp a.eval o).run P w = .ok (.value (.tuple #[])) (w.setRow b (rows.flatten ++ (sp.take (l * i.size - rows.flatten.length) ++ (Builtin.zeroCells z.cells m).toList ++ (rows.flatten ++ sp).drop (l * i.size + (Builtin.zeroCells z.cells m).toList.length))).toArray) := by
      simp [execOp, hop, resolve, invoke, builtin, hx', Builtin.clear_, run_und hT, zeroValue, run_info hi, hz, hm]
      simp at hst
      rw [hst]
      simp
    simp only [Oper.wp, hr', Oper.upon_value]
    refine hK _ _ _ _ h (by simpa [Act.put, hd] using hf) (hput.arrI r1 r2 r3 ?_)
    have hfit' := hfit
    rw [List.size_toArray, r4, Nat.add_zero, hzl] at hfit'
    simp only [List.length_append, List.length_drop, List.length_take] at r4 ⊢
    rw [hzl]
    omega

def zoB (P : Program) (E : TypeId) : Bool := match (P.info? E).bind (·.zero) with | some z => z.cells.toList.all (·.oneCell') | Option.none => true
theorem zoB.ok (h : zoB P E = true) : ∀ z, (P.info? E).bind (·.zero) = some z → ∀ v ∈ z.cells.toList, v.oneCell' = true := fun z hz v hv => by
  unfold zoB at h; rw [hz] at h; exact List.all_eq_true.1 h v hv

/-- A slice of one's own that is not empty. -/
theorem r_slne (v : Value) {sz : Nat} {rows : List (List Value)} [s : SelS H v E sz rows R] (hne : 0 < rows.length) (h : ∀ b cap, v = .slice (some ⟨b, 0, Option.none⟩) rows.length cap → rows.length ≤ cap → Rd M [arr b E sz rows cap] (.slice (some ⟨b, 0, Option.none⟩) rows.length cap) sz rows → Run P F N M K env (arr b E sz rows cap :: R)) : Run P F N M K env H := fun a w hf ho => by
  rcases (ho.ent s.ent).slE with ⟨_, h2, _⟩ | ⟨b, cap, e, ho2⟩
  · subst h2; simp at hne
  · obtain ⟨sp, _, q1, q2, q3, _⟩ := ho2.arrE
    exact h b cap e q2 (Rd.arr q1 q2 q3 Ent.rfl) a w hf ho2
theorem r_sel (X : HP) [s : SelX H X R] (h : Run P F N M K env (X :: R)) : Run P F N M K env H := r_ent s.ent h
theorem Ent.slOf {b sz cap nn : Nat} {rows : List (List Value)} [s : SelR H b E sz rows cap R] (e : nn = rows.length) : Ent H (sl (.slice (some ⟨b, 0, Option.none⟩) nn cap) E sz rows :: R) :=
  Ent.tr s.ent (Ent.imp fun _ hx => .inr ⟨b, cap, by rw [e], hx⟩)
variable {E0 : Env} {Hq He Re : List HP} {p : Plan} {eff : List Nat}
theorem qm_append_in {i d b sz bytes l1 cap : Nat} {rows rows2 : List (List Value)} (hT : P.underlying T = some (.slice E)) (hE : EL P E sz bytes) (l : List Src) (hac : acB ops = true) (hds : dstB ops = true) (hi : ops[i]? = some o) (hn : getP p i = Option.none) (hd : o.dst = some d) (hN : Nat.blt d N = true) (hs : srcB ops i l = true) (hrest : restB ops p i = true) (hg : GdW ops (srcEnv p E0 l) o)
    (hop : o.op = .call { callee := .builtin .append, args := #[x, y], argTypes := #[T, T] }) (hx : evo (srcEnv p E0 l) x = some (true, .slice (some ⟨b, 0, Option.none⟩) l1 cap)) (hy : evo (srcEnv p E0 l) y = some (true, u)) [s : SelR He b E sz rows cap Re] (hr : Rd M (He ++ Hq) u sz rows2) (hsome : ∃ A m c, u = .slice (some A) m c ∧ A.spot = Option.none)
    (hroom : l1 + rows2.length ≤ cap) (hl1 : l1 ≤ rows.length)
    (h : QM P F N M K ops E0 Hq ((i, some (d, true, .slice (some ⟨b, 0, Option.none⟩) (l1 + rows2.length) cap)) :: p) (i :: eff) (arr b E sz (rows.take l1 ++ rows2) cap :: Re)) : QM P F N M K ops E0 Hq p eff He :=
  qm_e l hac hds hi hn hd hN hs hrest hg (hg.opx (x_append_in (o := (ung o)) hT hE (Ent.app (A' := arr b E sz rows cap :: Re) s.ent) hr hsome hroom hl1 hop rfl hd hN hx hy ⟨_, arr b E sz (rows.take l1 ++ rows2) cap :: Re, by simp [look], rfl, h⟩))

section short
variable {d : Nat} {ty : TypeId} {ps : String} {af : Array Edge}
theorem p_bslice0 {sz : Nat} {zl : List Value} (hT : P.underlying T = some (.slice E)) (hE : SizeIs P E sz) (zr : ZR P E zl) (hN : Nat.blt d N = true)
    (h : ∀ b, Ops P F N M K ops rest ((d, true, .slice (some ⟨b, 0, Option.none⟩) 0 0) :: env) (sl (.slice (some ⟨b, 0, Option.none⟩) 0 0) E sz [] :: H)) : Ops P F N M K ops (⟨some d, .buildSlice T 0 #[], ty, ps, af, Option.none⟩ :: rest) env H :=
  l_op (x_bslice (ps := []) (zs := []) (cs := []) (rows := []) [] hT hE zr (by simp) (by simp) (fun i => by simp) rfl (by simp) rfl rfl rfl hN .n rfl (fun r hr => by simp at hr) rfl fun b => fun a w hf ho => h b a w hf (ho.ent (Ent.slOf (rows := []) (cap := 0) rfl)))
end short
theorem Ent.left : ∀ {A R : List HP}, Ent (A ++ R) A
  | [], _ => Ent.nil
  | _ :: A, _ => Ent.mono (Ent.left (A := A))
theorem Rd.nilrows {sz l c : Nat} {rows : List (List Value)} (h : Rd M H (.slice Option.none l c) sz rows) : rows = [] := by
  obtain ⟨ao, cap, e, _, _, h3, _⟩ := h.is
  cases e
  exact List.eq_nil_of_length_eq_zero (h3 rfl).1

end Go.Proofs.YtmakdilmibjpbacGreat
