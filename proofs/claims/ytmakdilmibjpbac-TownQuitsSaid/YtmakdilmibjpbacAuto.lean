/- Parts found by instances: slices of the call's own, arrays; short forms on slices. -/
import Derived.Test.YtmakdilmibjpbacIdx
namespace Go.Proofs.Ytmakdilmibjpbac
open Go Go.RowKit

variable {P : Program} {F : Exit → Act → World → Prop} {N : Nat} {M : Amb} {env : Env} {H H' R : List HP} {a : Act} {w : World} {ops : Array Oper} {o : Oper} {rest : List Oper} {K : List KI}
variable {g gx gy gz : Bool} {x y z : Operand} {v v' u : Value} {Rr : Env → List HP → Prop} {f : FuncId} {fn : Func} {Post : Value → List HP → Prop} {T T2 E : TypeId} {k : IntKind} {m n : Int}

class SelS (H : List HP) (v : Value) (E : outParam TypeId) (sz : outParam Nat) (rows : outParam (List (List Value))) (R : outParam (List HP)) : Prop where
  ent : Ent H (sl v E sz rows :: R)
instance selSh {sz : Nat} {rows : List (List Value)} : SelS (sl v E sz rows :: R) v E sz rows R := ⟨Ent.h⟩
instance selSt {X : HP} {R' : List HP} {sz : Nat} {rows : List (List Value)} [s : SelS R v E sz rows R'] : SelS (X :: R) v E sz rows (X :: R') := ⟨Ent.t s.ent⟩
instance selSa {A B : List HP} {sz : Nat} {rows : List (List Value)} [s : SelS B v E sz rows R] : SelS (A ++ B) v E sz rows (A ++ R) := ⟨Ent.selA s.ent⟩
class SelR (H : List HP) (b : Nat) (E : outParam TypeId) (sz : outParam Nat) (rows : outParam (List (List Value))) (cap : outParam Nat) (R : outParam (List HP)) : Prop where
  ent : Ent H (arr b E sz rows cap :: R)
instance selRh {b sz cap : Nat} {rows : List (List Value)} : SelR (arr b E sz rows cap :: R) b E sz rows cap R := ⟨Ent.h⟩
instance selRt {X : HP} {R' : List HP} {b sz cap : Nat} {rows : List (List Value)} [s : SelR R b E sz rows cap R'] : SelR (X :: R) b E sz rows cap (X :: R') := ⟨Ent.t s.ent⟩
instance selRa {A B : List HP} {b sz cap : Nat} {rows : List (List Value)} [s : SelR B b E sz rows cap R] : SelR (A ++ B) b E sz rows cap (A ++ R) := ⟨Ent.selA s.ent⟩

theorem Ent.nil : ∀ {R : List HP}, Ent R []
  | [] => Ent.rfl
  | _ :: R => Ent.dropR (Ent.nil (R := R))
theorem Ent.one {X : HP} (h : Ent H (X :: R)) : Ent H [X] := Ent.tr h (Ent.mono Ent.nil)

theorem sl_rd {sz : Nat} {rows : List (List Value)} (ho' : Own M (sl v E sz rows :: R) w) : Rd M [sl v E sz rows] v sz rows := by
  rcases ho'.slE with ⟨rfl, rfl, _⟩ | ⟨b, cap, rfl, ho2⟩
  · exact ⟨fun r hr => by simp at hr, _, 0, rfl, by simp, by simp, fun _ => ⟨rfl, rfl⟩, (fun _ hA _ => by cases hA)⟩
  · obtain ⟨sp, _, q1, q2, q3, _⟩ := ho2.arrE
    refine ⟨q1, _, cap, rfl, q2, q3, (fun h => by cases h), fun A hA _ => ?_⟩
    cases hA
    refine ⟨rfl, fun w1 ho1 j u hu => ?_⟩
    rcases ho1.slE with ⟨h, _⟩ | ⟨b1, cap1, h, ho3⟩
    · cases h
    · cases h
      obtain ⟨sp, ho4, _⟩ := ho3.arrE
      rw [ho4.cell]
      simp only [Nat.zero_add]
      rw [List.getElem?_append_left (List.getElem?_eq_some_iff.1 hu).1]; exact hu
/-- A slice of the call's own reads as its rows as long as it is owned. -/
theorem r_rd (v : Value) {sz : Nat} {rows : List (List Value)} [s : SelS H v E sz rows R] (h : Rd M [sl v E sz rows] v sz rows → Run P F N M K env H) : Run P F N M K env H := fun a w hf ho => h (sl_rd (ho.ent s.ent)) a w hf ho
theorem o_rd (v : Value) {sz : Nat} {rows : List (List Value)} [s : SelS H v E sz rows R] (h : Rd M [sl v E sz rows] v sz rows → Ops P F N M K ops rest env H) : Ops P F N M K ops rest env H := fun a w hf ho => h (sl_rd (ho.ent s.ent)) a w hf ho
/-- It reads so in whatever holds it. -/
theorem Rd.own {sz : Nat} {rows : List (List Value)} (h : Rd M [sl v E sz rows] v sz rows) [s : SelS H v E sz rows R] : Rd M H v sz rows := h.ent (Ent.one s.ent)
theorem Rd.blit {b sz : Nat} {us : List Value} [s : SelR H b E sz [us] 1 R] (hl : us.length = sz) (h1 : us.all (·.oneCell') = true) : Rd M H (.slice (some ⟨b, 0, Option.none⟩) 1 1) sz [us] := Rd.one hl h1 s.ent

theorem len_ok {n bytes : Nat} (hby : Nat.blt 0 bytes = true) (hb : n * bytes ≤ 140737488355328) : n ≤ maxLen := by
  have h1 : 1 ≤ bytes := by have : 0 < bytes := by simpa using hby
                            omega
  have h2 : n * 1 ≤ n * bytes := Nat.mul_le_mul_left _ h1
  simp only [maxLen]; omega
variable {E0 : Env} {Hq He Re : List HP} {p : Plan} {eff : List Nat}
theorem qa_append {i d sz bytes : Nat} {rows rows2 : List (List Value)} (hT : P.underlying T = some (.slice E)) (hE : EL P E sz bytes) (hsz : Nat.blt 0 sz = true) (hby : Nat.blt 0 bytes = true) (l : List Src) (hac : acB ops = true) (hds : dstB ops = true) (hi : ops[i]? = some o) (hn : getP p i = Option.none) (hd : o.dst = some d) (hN : Nat.blt d N = true) (hs : srcB ops i l = true) (hrest : restB ops p i = true) (hg : GdW ops (srcEnv p E0 l) o)
    (hop : o.op = .call { callee := .builtin .append, args := #[x, y], argTypes := #[T, T] }) (hx : evo (srcEnv p E0 l) x = some (true, v)) (hy : evo (srcEnv p E0 l) y = some (true, u)) [s : SelS He v E sz rows Re] (hr : Rd M (He ++ Hq) u sz rows2)
    (hb : (rows.length + rows2.length) * bytes ≤ 140737488355328)
    (h : ∀ v', QM P F N M K ops E0 Hq ((i, some (d, true, v')) :: p) (i :: eff) (sl v' E sz (rows ++ rows2) :: Re)) : QM P F N M K ops E0 Hq p eff He :=
  qm_append hT hE (by simpa using hsz) l hac hds hi hn hd hN hs hrest hg hop hx hy s.ent hr hb (len_ok hby hb) h
theorem qm_bslice1 {i d sz : Nat} {zl us : List Value} (hT : P.underlying T = some (.slice E)) (hE : SizeIs P E sz) (zr : ZR P E zl) (hzl : Nat.beq zl.length sz = true) (l : List Src) (hac : acB ops = true) (hds : dstB ops = true) (hi : ops[i]? = some o) (hn : getP p i = Option.none) (hd : o.dst = some d) (hN : Nat.blt d N = true) (hs : srcB ops i l = true) (hrest : restB ops p i = true) (hg : GdW ops (srcEnv p E0 l) o)
    (hop : o.op = .buildSlice T 1 #[(0, x)]) (hx : evo (srcEnv p E0 l) x = some (true, v)) (hu : v.cells = us.toArray) (hl : us.length = sz) (h1 : us.all (·.oneCell') = true) (hsz : Nat.ble sz 16777216 = true)
    (h : ∀ b, QM P F N M K ops E0 Hq ((i, some (d, true, .slice (some ⟨b, 0, Option.none⟩) 1 1)) :: p) (i :: eff) (arr b E sz [us] 1 :: He)) : QM P F N M K ops E0 Hq p eff He :=
  qm_e l hac hds hi hn hd hN hs hrest hg (hg.opx (x_bslice1 (o := (ung o)) hT hE zr hzl hx hu hl h1 hsz hN hop rfl hd fun b => ⟨_, arr b E sz [us] 1 :: He, by simp [look], rfl, h b⟩))
section short
variable {d : Nat} {ty : TypeId} {ps : String} {af : Array Edge}
theorem p_idx {sz i : Nat} {rows : List (List Value)} {r : List Value} (hT : P.underlying T = some (.slice E)) (hE : SizeIs P E sz) (hr : Rd M H' v sz rows) (hn : n = (i : Int)) (hrow : rows[i]? = some r) (hx : evo env x = some (true, v)) (hy : evo env y = some (true, .int k n)) (hN : Nat.blt d N = true)
    (h : Ops P F N M K ops rest ((d, true, ptrAt v (i * sz)) :: env) H) : Ops P F N M K ops (⟨some d, .indexAddr T x y, ty, ps, af, Option.none⟩ :: rest) env H := l_op (x_p (pv_idx hT hE hr (fun _ => ⟨hn, hrow⟩) (.n rfl) rfl hx hy (fun _ => ⟨rfl, rfl⟩)) rfl hN h)
theorem p_faat {s : TypeId} {f fo q : Nat} (fa : faB P s f fo = true) (hv : ∃ b off l c, v = .slice (some ⟨b, off, Option.none⟩) l c) (hx : evo env x = some (true, ptrAt v q)) (hN : Nat.blt d N = true) (h : Ops P F N M K ops rest ((d, true, ptrAt v (q + fo)) :: env) H) :
    Ops P F N M K ops (⟨some d, .fieldAddr s x f, ty, ps, af, Option.none⟩ :: rest) env H := l_op (x_p (pv_faat fa (fun _ => hv) (.n rfl) rfl hx (fun _ => rfl)) rfl hN h)
theorem p_ldat {t sz i q : Nat} {rows : List (List Value)} {r : List Value} (j : Nat) (tc : tcB P t = true) (hr : Rd M H v sz rows) (hrow : rows[i]? = some r) (hx : evo env x = some (true, ptrAt v q)) (hq : q = i * sz + j) (hj : r[j]? = some u) (hN : Nat.blt d N = true) (h : Ops P F N M K ops rest ((d, true, u) :: env) H) :
    Ops P F N M K ops (⟨some d, .load t x, ty, ps, af, Option.none⟩ :: rest) env H := l_op (x_r (rv_ldat tc hr (fun _ => hrow) (.n rfl) rfl hx (fun _ => rfl) hq (fun _ => hj)) rfl hN h)
theorem p_ldats {t sz i q n : Nat} {rows : List (List Value)} {r us : List Value} (j : Nat) (ta : taB P t n = true) (hr : Rd M H v sz rows) (hrow : rows[i]? = some r) (hx : evo env x = some (true, ptrAt v q)) (hq : q = i * sz + j) (hj : Tk n (r.drop j) us) (hN : Nat.blt d N = true) (h : Ops P F N M K ops rest ((d, true, .agg us.toArray) :: env) H) :
    Ops P F N M K ops (⟨some d, .load t x, ty, ps, af, Option.none⟩ :: rest) env H := l_op (x_r (rv_ldats ta hr (fun _ => hrow) (.n rfl) rfl hx (fun _ => rfl) hq hj) rfl hN h)
theorem p_append {sz bytes : Nat} {rows rows2 : List (List Value)} (hT : P.underlying T = some (.slice E)) (hE : EL P E sz bytes) (hsz : Nat.blt 0 sz = true) (hby : Nat.blt 0 bytes = true) (hx : evo env x = some (true, v)) [s : SelS H v E sz rows R] (hy : evo env y = some (true, u)) (hN : Nat.blt d N = true) (hr : Rd M H u sz rows2)
    (hb : (rows.length + rows2.length) * bytes ≤ 140737488355328) (h : ∀ v', Ops P F N M K ops rest ((d, true, v') :: env) (sl v' E sz (rows ++ rows2) :: R)) :
    Ops P F N M K ops (⟨some d, .call { callee := .builtin .append, args := #[x, y], argTypes := #[T, T] }, ty, ps, af, Option.none⟩ :: rest) env H :=
  l_op (x_append hT hE (by simpa using hsz) s.ent hr hb (len_ok hby hb) rfl rfl rfl hN hx hy h)
theorem p_bslice1 {sz : Nat} {zl us : List Value} {x : Operand} (hT : P.underlying T = some (.slice E)) (hE : SizeIs P E sz) (zr : ZR P E zl) (hzl : Nat.beq zl.length sz = true) (hx : evo env x = some (true, v)) (hu : v.cells = us.toArray) (hl : us.length = sz) (h1 : us.all (·.oneCell') = true) (hsz : Nat.ble sz 16777216 = true) (hN : Nat.blt d N = true)
    (h : ∀ b, Ops P F N M K ops rest ((d, true, .slice (some ⟨b, 0, Option.none⟩) 1 1) :: env) (arr b E sz [us] 1 :: H)) : Ops P F N M K ops (⟨some d, .buildSlice T 1 #[(0, x)], ty, ps, af, Option.none⟩ :: rest) env H :=
  l_op (x_bslice1 hT hE zr hzl hx hu hl h1 hsz hN rfl rfl rfl h)
end short

end Go.Proofs.Ytmakdilmibjpbac
