/- Short forms of the engine's laws, one an operation without a guard; blocks found by instances. -/
import Derived.Test.YtmakdilmibjpbabMore
namespace Go.Proofs.Ytmakdilmibjpbab
open Go Go.RowKit

variable {P : Program} {F : Exit → Act → World → Prop} {N : Nat} {M : Amb} {env : Env} {H H' R : List HP} {a : Act} {w : World} {ops : Array Oper} {o : Oper} {rest : List Oper} {K : List KI}
variable {g gx gy gz : Bool} {x y z : Operand} {v v' u : Value} {Rr : Env → List HP → Prop} {f : FuncId} {fn : Func} {Post : Value → List HP → Prop} {T T2 E : TypeId} {k : IntKind} {m n : Int}

/-! ### Short forms -/

/-- The block b among what is owned; what is left without it. -/
class SelB (H : List HP) (b : Nat) (cs : outParam (List Value)) (T : outParam TypeId) (R : outParam (List HP)) : Prop where
  ent : Ent H (blk b cs T :: R)
instance selBh {b : Nat} {cs : List Value} {T : TypeId} {R : List HP} : SelB (blk b cs T :: R) b cs T R := ⟨Ent.h⟩
instance selBt {b : Nat} {cs : List Value} {T : TypeId} {X : HP} {R R' : List HP} [s : SelB R b cs T R'] : SelB (X :: R) b cs T (X :: R') := ⟨Ent.t s.ent⟩

theorem Ent.skip : ∀ {A B : List HP}, Ent (A ++ B) B
  | [], _ => Ent.rfl
  | _ :: A, _ => Ent.dropR (Ent.skip (A := A))
theorem Ent.selA {X : HP} : ∀ {A B R : List HP}, Ent B (X :: R) → Ent (A ++ B) (X :: (A ++ R))
  | [], _, _, h => h
  | _ :: A, _, _, h => Ent.t (Ent.selA (A := A) h)
instance selBa {b : Nat} {cs : List Value} {T : TypeId} {A B R : List HP} [s : SelB B b cs T R] : SelB (A ++ B) b cs T (A ++ R) := ⟨Ent.selA s.ent⟩

section short
variable {d : Nat} {ty : TypeId} {ps : String} {af : Array Edge}
theorem p_mv  (hx : evo env x = some (true, v)) (hN : Nat.blt d N = true) (h : Ops P F N M K ops rest ((d, true, v) :: env) H) : Ops P F N M K ops (⟨some d, .move x, ty, ps, af, Option.none⟩ :: rest) env H := l_op (x_p (pv_mv (.n rfl) rfl hx (fun _ => rfl)) rfl hN h)
theorem p_as  (hx : evo env x = some (true, v)) (hN : Nat.blt d N = true) (h : Ops P F N M K ops rest ((d, true, v) :: env) H) : Ops P F N M K ops (⟨some d, .assign x, ty, ps, af, Option.none⟩ :: rest) env H := l_op (x_p (pv_as (.n rfl) rfl hx (fun _ => rfl)) rfl hN h)
theorem p_lss  (hx : evo env x = some (true, .int k m)) (hy : evo env y = some (true, .int k n)) (hN : Nat.blt d N = true) (h : Ops P F N M K ops rest ((d, true, .bool (decide (m < n))) :: env) H) : Ops P F N M K ops (⟨some d, .binOp .lss T x y T2, ty, ps, af, Option.none⟩ :: rest) env H := l_op (x_p (pv_lss (.n rfl) rfl hx hy (fun _ => ⟨rfl, rfl⟩)) rfl hN h)
theorem p_leq  (hx : evo env x = some (true, .int k m)) (hy : evo env y = some (true, .int k n)) (hN : Nat.blt d N = true) (h : Ops P F N M K ops rest ((d, true, .bool (decide (m ≤ n))) :: env) H) : Ops P F N M K ops (⟨some d, .binOp .leq T x y T2, ty, ps, af, Option.none⟩ :: rest) env H := l_op (x_p (pv_leq (.n rfl) rfl hx hy (fun _ => ⟨rfl, rfl⟩)) rfl hN h)
theorem p_gtr  (hx : evo env x = some (true, .int k m)) (hy : evo env y = some (true, .int k n)) (hN : Nat.blt d N = true) (h : Ops P F N M K ops rest ((d, true, .bool (decide (n < m))) :: env) H) : Ops P F N M K ops (⟨some d, .binOp .gtr T x y T2, ty, ps, af, Option.none⟩ :: rest) env H := l_op (x_p (pv_gtr (.n rfl) rfl hx hy (fun _ => ⟨rfl, rfl⟩)) rfl hN h)
theorem p_geq  (hx : evo env x = some (true, .int k m)) (hy : evo env y = some (true, .int k n)) (hN : Nat.blt d N = true) (h : Ops P F N M K ops rest ((d, true, .bool (decide (n ≤ m))) :: env) H) : Ops P F N M K ops (⟨some d, .binOp .geq T x y T2, ty, ps, af, Option.none⟩ :: rest) env H := l_op (x_p (pv_geq (.n rfl) rfl hx hy (fun _ => ⟨rfl, rfl⟩)) rfl hN h)
theorem p_eql  (hx : evo env x = some (true, .int k m)) (hy : evo env y = some (true, .int k n)) (hN : Nat.blt d N = true) (h : Ops P F N M K ops rest ((d, true, .bool (decide (m = n))) :: env) H) : Ops P F N M K ops (⟨some d, .binOp .eql T x y T2, ty, ps, af, Option.none⟩ :: rest) env H := l_op (x_p (pv_eql (.n rfl) rfl hx hy (fun _ => ⟨rfl, rfl⟩)) rfl hN h)
theorem p_neq  (hx : evo env x = some (true, .int k m)) (hy : evo env y = some (true, .int k n)) (hN : Nat.blt d N = true) (h : Ops P F N M K ops rest ((d, true, .bool (!decide (m = n))) :: env) H) : Ops P F N M K ops (⟨some d, .binOp .neq T x y T2, ty, ps, af, Option.none⟩ :: rest) env H := l_op (x_p (pv_neq (.n rfl) rfl hx hy (fun _ => ⟨rfl, rfl⟩)) rfl hN h)
theorem p_add  (hx : evo env x = some (true, .int .i64 m)) (hy : evo env y = some (true, .int .i64 n)) (hb : -9223372036854775808 ≤ m + n ∧ m + n ≤ 9223372036854775807) (hN : Nat.blt d N = true) (h : Ops P F N M K ops rest ((d, true, .int .i64 (m + n)) :: env) H) : Ops P F N M K ops (⟨some d, .binOp .add T x y T2, ty, ps, af, Option.none⟩ :: rest) env H := l_op (x_p (pv_add (fun _ => hb) (.n rfl) rfl hx hy (fun _ => ⟨rfl, rfl⟩)) rfl hN h)
theorem p_sub  (hx : evo env x = some (true, .int .i64 m)) (hy : evo env y = some (true, .int .i64 n)) (hb : -9223372036854775808 ≤ m - n ∧ m - n ≤ 9223372036854775807) (hN : Nat.blt d N = true) (h : Ops P F N M K ops rest ((d, true, .int .i64 (m - n)) :: env) H) : Ops P F N M K ops (⟨some d, .binOp .sub T x y T2, ty, ps, af, Option.none⟩ :: rest) env H := l_op (x_p (pv_sub (fun _ => hb) (.n rfl) rfl hx hy (fun _ => ⟨rfl, rfl⟩)) rfl hN h)
theorem p_mul  (hx : evo env x = some (true, .int .i64 m)) (hy : evo env y = some (true, .int .i64 n)) (hb : -9223372036854775808 ≤ m * n ∧ m * n ≤ 9223372036854775807) (hN : Nat.blt d N = true) (h : Ops P F N M K ops rest ((d, true, .int .i64 (m * n)) :: env) H) : Ops P F N M K ops (⟨some d, .binOp .mul T x y T2, ty, ps, af, Option.none⟩ :: rest) env H := l_op (x_p (pv_mul (fun _ => hb) (.n rfl) rfl hx hy (fun _ => ⟨rfl, rfl⟩)) rfl hN h)
theorem p_neg  (hx : evo env x = some (true, .int .i64 m)) (hb : -9223372036854775808 ≤ -m ∧ -m ≤ 9223372036854775807) (hN : Nat.blt d N = true) (h : Ops P F N M K ops rest ((d, true, .int .i64 (-m)) :: env) H) : Ops P F N M K ops (⟨some d, .unOp .neg T x, ty, ps, af, Option.none⟩ :: rest) env H := l_op (x_p (pv_neg (fun _ => hb) (.n rfl) rfl hx (fun _ => rfl)) rfl hN h)
theorem p_not {b : Bool} (hx : evo env x = some (true, .bool b)) (hN : Nat.blt d N = true) (h : Ops P F N M K ops rest ((d, true, .bool (!b)) :: env) H) : Ops P F N M K ops (⟨some d, .unOp .not T x, ty, ps, af, Option.none⟩ :: rest) env H := l_op (x_p (pv_not (.n rfl) rfl hx (fun _ => rfl)) rfl hN h)
theorem p_nil {A : Addr} (hx : evo env x = some (true, .pointer (some A))) (hN : Nat.blt d N = true) (h : Ops P F N M K ops rest ((d, true, .pointer (some A)) :: env) H) : Ops P F N M K ops (⟨some d, .nilCheck x, ty, ps, af, Option.none⟩ :: rest) env H := l_op (x_p (pv_nilp (.n rfl) rfl hx (fun _ => rfl)) rfl hN h)
theorem p_fa {s : TypeId} {f fo b off : Nat} (fa : faB P s f fo = true) (hx : evo env x = some (true, .pointer (some ⟨b, off, Option.none⟩))) (hN : Nat.blt d N = true) (h : Ops P F N M K ops rest ((d, true, .pointer (some ⟨b, off + fo, Option.none⟩)) :: env) H) : Ops P F N M K ops (⟨some d, .fieldAddr s x f, ty, ps, af, Option.none⟩ :: rest) env H := l_op (x_p (pv_fa fa (.n rfl) rfl hx (fun _ => rfl)) rfl hN h)
theorem p_ext {t i : Nat} {vs : List Value} (hx : look env t = some (true, .tuple vs.toArray)) (hv : vs[i]? = some v) (hN : Nat.blt d N = true) (h : Ops P F N M K ops rest ((d, true, v) :: env) H) : Ops P F N M K ops (⟨some d, .extract (.tmp t) i, ty, ps, af, Option.none⟩ :: rest) env H := l_op (x_p (pv_ext (.n rfl) rfl hx hv (fun _ => rfl)) rfl hN h)
theorem p_len {ao : Option Addr} {n c : Nat} {e : TypeId} (hs : P.underlying T = some (.slice e)) (hx : evo env x = some (true, .slice ao n c)) (hN : Nat.blt d N = true) (h : Ops P F N M K ops rest ((d, true, .int .i64 n) :: env) H) : Ops P F N M K ops (⟨some d, .call { callee := .builtin .len, args := #[x], argTypes := #[T] }, ty, ps, af, Option.none⟩ :: rest) env H := l_op (x_p (pv_len ⟨e, hs⟩ (.n rfl) rfl rfl rfl hx (fun _ => rfl)) rfl hN h)
theorem p_ldc {t b i : Nat} {cs : List Value} {T : TypeId} {R : List HP} (tc : tcB P t = true) (hx : evo env x = some (true, .pointer (some ⟨b, i, Option.none⟩))) [s : SelB H b cs T R] (hv : cs[i]? = some v) (hN : Nat.blt d N = true) (h : Ops P F N M K ops rest ((d, true, v) :: env) H) : Ops P F N M K ops (⟨some d, .load t x, ty, ps, af, Option.none⟩ :: rest) env H := l_op (x_r (rv_ldc tc (CellAt.blk s.ent hv) (.n rfl) rfl hx (fun _ => rfl)) rfl hN h)
theorem p_lda {t b i n : Nat} {cs vs : List Value} {T : TypeId} {R : List HP} (ta : taB P t n = true) (hx : evo env x = some (true, .pointer (some ⟨b, i, Option.none⟩))) [s : SelB H b cs T R] (hv : Tk n (cs.drop i) vs) (hN : Nat.blt d N = true) (h : Ops P F N M K ops rest ((d, true, .agg vs.toArray) :: env) H) : Ops P F N M K ops (⟨some d, .load t x, ty, ps, af, Option.none⟩ :: rest) env H := l_op (x_r (rv_lda ta (CellsAt.blk s.ent hv) hv.length (.n rfl) rfl hx (fun _ => rfl)) rfl hN h)
theorem p_ldr {t b i : Nat} (tc : tcB P t = true) (hx : evo env x = some (true, .pointer (some ⟨b, i, Option.none⟩))) (hc : CellAt M H b i v) (hN : Nat.blt d N = true) (h : Ops P F N M K ops rest ((d, true, v) :: env) H) : Ops P F N M K ops (⟨some d, .load t x, ty, ps, af, Option.none⟩ :: rest) env H := l_op (x_r (rv_ldc tc hc (.n rfl) rfl hx (fun _ => rfl)) rfl hN h)
theorem p_lds {t b i n : Nat} {vs : List Value} (ta : taB P t n = true) (hx : evo env x = some (true, .pointer (some ⟨b, i, Option.none⟩))) (hc : CellsAt M H b i vs) (hn : vs.length = n) (hN : Nat.blt d N = true) (h : Ops P F N M K ops rest ((d, true, .agg vs.toArray) :: env) H) : Ops P F N M K ops (⟨some d, .load t x, ty, ps, af, Option.none⟩ :: rest) env H := l_op (x_r (rv_lda ta hc hn (.n rfl) rfl hx (fun _ => rfl)) rfl hN h)
theorem p_build {zs cs' : List Value} {pl : List (Nat × Nat)} {pp : List (Nat × Operand)} (zr : ZR P T zs) (hp : PL P T pl) (hfl : FillR pl env true zs pp cs') (hN : Nat.blt d N = true) (h : Ops P F N M K ops rest ((d, true, .agg cs'.toArray) :: env) H) : Ops P F N M K ops (⟨some d, .build T pp.toArray, ty, ps, af, Option.none⟩ :: rest) env H := l_op (x_p (pv_build zr hp (.n rfl) rfl hfl) rfl hN h)
theorem p_box {d : Nat} {cs : List Value} (hx : evo env x = some (true, v)) (hN : Nat.blt d N = true) (hc : v.cells = cs.toArray) (h : ∀ b, Ops P F N M K ops rest ((d, true, .pointer (some ⟨b, 0, Option.none⟩)) :: env) (blk b cs T :: H)) :
    Ops P F N M K ops (⟨some d, .box T x, ty, ps, af, Option.none⟩ :: rest) env H := l_op (x_box rfl rfl rfl hN hx hc h)
theorem p_alloc {d : Nat} {zs : List Value} (zr : ZR P T zs) (hN : Nat.blt d N = true) (h : ∀ b, Ops P F N M K ops rest ((d, true, .pointer (some ⟨b, 0, Option.none⟩)) :: env) (blk b zs T :: H)) :
    Ops P F N M K ops (⟨some d, .alloc T, ty, ps, af, Option.none⟩ :: rest) env H := l_op (x_alloc zr rfl rfl rfl hN h)
theorem p_store {T' : TypeId} {b i n : Nat} {cs cs' vs : List Value} {R : List HP} (hs : SizeIs P T n) (hx : evo env x = some (true, .pointer (some ⟨b, i, Option.none⟩))) [s : SelB H b cs T' R] (hy : evo env y = some (true, u)) (hu : u.cells = vs.toArray) (hn : vs.length = n) (h1 : vs.all (·.oneCell') = true) (hi : Ins cs i vs cs')
    (h : Ops P F N M K ops rest env (blk b cs' T' :: R)) : Ops P F N M K ops (⟨Option.none, .store T x y, ty, ps, af, Option.none⟩ :: rest) env H := l_op (x_store hs s.ent rfl rfl rfl hx hy hu hn h1 hi h)
theorem p_callv {xs : List Operand} {vs : List Value} {at' : Array TypeId} {d : Nat} (cf : cfB P f = true) (ha : Args env xs vs) (hN : Nat.blt d N = true) (hc : FnV P M H f vs v) (h : Ops P F N M K ops rest ((d, true, v) :: env) H) :
    Ops P F N M K ops (⟨some d, .call { callee := .value (.func f), args := xs.toArray, argTypes := at' }, ty, ps, af, Option.none⟩ :: rest) env H := l_op (x_callv cf rfl rfl rfl hN ha hc h)
theorem p_call {xs : List Operand} {vs : List Value} {at' : Array TypeId} {d : Nat} (cf : cfB P f = true) (ha : Args env xs vs) (hN : Nat.blt d N = true) (hc : FnR P M H f vs Post) (h : ∀ v H', Post v H' → Ops P F N M K ops rest ((d, true, v) :: env) H') :
    Ops P F N M K ops (⟨some d, .call { callee := .value (.func f), args := xs.toArray, argTypes := at' }, ty, ps, af, Option.none⟩ :: rest) env H := l_op (x_call cf rfl rfl rfl hN ha hc h)
theorem p_call0 {xs : List Operand} {vs : List Value} {at' : Array TypeId} (cf : cfB P f = true) (ha : Args env xs vs) (hc : FnR P M H f vs Post) (h : ∀ v H', Post v H' → Ops P F N M K ops rest env H') :
    Ops P F N M K ops (⟨Option.none, .call { callee := .value (.func f), args := xs.toArray, argTypes := at' }, ty, ps, af, Option.none⟩ :: rest) env H := l_op (x_call0 cf rfl rfl rfl ha hc h)
/-- Guarded reads of a block. -/
theorem q_ldc {t b i : Nat} {cs : List Value} {T : TypeId} {R : List HP} (tc : tcB P t = true) (hg : Gd ops env o g) (hop : o.op = .load t x) (hx : evo env x = some (gx, .pointer (some ⟨b, i, Option.none⟩))) (hi : g = true → gx = true) [s : SelB H b cs T R] (hv : cs[i]? = some v) :
    RV P M ops o env H g v := rv_ldc tc (CellAt.blk s.ent hv) hg hop hx hi
theorem q_lda {t b i n : Nat} {cs vs : List Value} {T : TypeId} {R : List HP} (ta : taB P t n = true) (hg : Gd ops env o g) (hop : o.op = .load t x) (hx : evo env x = some (gx, .pointer (some ⟨b, i, Option.none⟩))) (hi : g = true → gx = true) [s : SelB H b cs T R] (hv : Tk n (cs.drop i) vs) :
    RV P M ops o env H g (.agg vs.toArray) := rv_lda ta (CellsAt.blk s.ent hv) hv.length hg hop hx hi
theorem q_store {T' : TypeId} {b i n : Nat} {cs cs' vs : List Value} {R : List HP} (hs : SizeIs P T n) (hop : o.op = .store T x y) (hgd : o.guard = Option.none) (hd : o.dst = Option.none)
    (hx : evo env x = some (true, .pointer (some ⟨b, i, Option.none⟩))) (hy : evo env y = some (true, u)) (hu : u.cells = vs.toArray) (hn : vs.length = n) (h1 : vs.all (·.oneCell') = true) [s : SelB H b cs T' R] (hi : Ins cs i vs cs')
    (h : Rr env (blk b cs' T' :: R)) : OpX P N M ops o env H Rr := x_store hs s.ent hop hgd hd hx hy hu hn h1 hi h
end short

end Go.Proofs.Ytmakdilmibjpbab
