/- Parts found by instances: slices of the call's own, arrays; short forms on slices. Loops and joins, with relations of several parameters. Written by looptpl.py. Objects: parts that hide what they hold; contracts over them; guards; barriers in regions whose order is drawn. -/
import Derived.Test.YtmakdilmibjpbabGreatDoorIdx
namespace Go.Proofs.YtmakdilmibjpbabGreatDoor
open Go Go.RowKit

variable {P : Program} {F : Exit → Act → World → Prop} {N : Nat} {M : Amb} {env : Env} {H H' R : List HP} {a : Act} {w : World} {ops : Array Oper} {o : Oper} {rest : List Oper} {K : List KI}
variable {g gx gy gz : Bool} {x y z : Operand} {v v' u : Value} {Rr : Env → List HP → Prop} {f : FuncId} {fn : Func} {Post : Value → List HP → Prop} {T T2 E : TypeId} {k : IntKind} {m n : Int}

class SelS (H : List HP) (v : Value) (E : outParam TypeId) (sz : outParam Nat) (rows : outParam (List (List Value))) (R : outParam (List HP)) : Prop where
  ent : Ent H (sl v E sz rows :: R)
instance selSh {sz : Nat} {rows : List (List Value)} : SelS (sl v E sz rows :: R) v E sz rows R := ⟨Ent.h⟩
instance selSt {X : HP} {R' : List HP} {sz : Nat} {rows : List (List Value)} [s : SelS R v E sz rows R'] : SelS (X :: R) v E sz rows (X :: R') := ⟨Ent.t s.ent⟩
instance selSa {A B : List HP} {sz : Nat} {rows : List (List Value)} [s : SelS B v E sz rows R] : SelS (A ++ B) v E sz rows (A ++ R) := ⟨Ent.selA s.ent⟩
class SelR (H : List HP) (b : Nat) (E : outParam TypeId) (sz : outParam Nat) (rows : outParam (List (List Value))) (cap : outParam Nat) (R : outParam (List HP)) : Prop where
  ent : Ent H (arr b E sz rows cap :: R)
instance selRh {b sz cap : Nat} {rows : List (List Value)} : SelR (arr b E sz rows cap :: R) b E sz rows cap R := ⟨Ent.h⟩
instance selRt {X : HP} {R' : List HP} {b sz cap : Nat} {rows : List (List Value)} [s : SelR R b E sz rows cap R'] : SelR (X :: R) b E sz rows cap (X :: R') := ⟨Ent.t s.ent⟩
instance selRa {A B : List HP} {b sz cap : Nat} {rows : List (List Value)} [s : SelR B b E sz rows cap R] : SelR (A ++ B) b E sz rows cap (A ++ R) := ⟨Ent.selA s.ent⟩

theorem Ent.nil : ∀ {R : List HP}, Ent R []
  | [] => Ent.rfl
  | _ :: R => Ent.dropR (Ent.nil (R := R))
theorem Ent.one {X : HP} (h : Ent H (X :: R)) : Ent H [X] := Ent.tr h (Ent.mono Ent.nil)

theorem sl_rd {sz : Nat} {rows : List (List Value)} (ho' : Own M (sl v E sz rows :: R) w) : Rd M [sl v E sz rows] v sz rows := by
  rcases ho'.slE with ⟨rfl, rfl, _⟩ | ⟨b, cap, rfl, ho2⟩
  · exact ⟨fun r hr => by simp at hr, _, 0, rfl, by simp, by simp, fun _ => ⟨rfl, rfl⟩, (fun _ hA _ => by cases hA)⟩
  · obtain ⟨sp, _, q1, q2, q3, _⟩ := ho2.arrE
    refine ⟨q1, _, cap, rfl, q2, q3, (fun h => by cases h), fun A hA _ => ?_⟩
    cases hA
    refine ⟨rfl, fun w1 ho1 j u hu => ?_⟩
    rcases ho1.slE with ⟨h, _⟩ | ⟨b1, cap1, h, ho3⟩
    · cases h
    · cases h
      obtain ⟨sp, ho4, _⟩ := ho3.arrE
      rw [ho4.cell]
      simp only [Nat.zero_add]
      rw [List.getElem?_append_left (List.getElem?_eq_some_iff.1 hu).1]; exact hu
/-- A slice of the call's own reads as its rows as long as it is owned. -/
theorem r_rd (v : Value) {sz : Nat} {rows : List (List Value)} [s : SelS H v E sz rows R] (h : Rd M [sl v E sz rows] v sz rows → Run P F N M K env H) : Run P F N M K env H := fun a w hf ho => h (sl_rd (ho.ent s.ent)) a w hf ho
theorem o_rd (v : Value) {sz : Nat} {rows : List (List Value)} [s : SelS H v E sz rows R] (h : Rd M [sl v E sz rows] v sz rows → Ops P F N M K ops rest env H) : Ops P F N M K ops rest env H := fun a w hf ho => h (sl_rd (ho.ent s.ent)) a w hf ho
/-- It reads so in whatever holds it. -/
theorem Rd.own {sz : Nat} {rows : List (List Value)} (h : Rd M [sl v E sz rows] v sz rows) [s : SelS H v E sz rows R] : Rd M H v sz rows := h.ent (Ent.one s.ent)
theorem Rd.blit {b sz : Nat} {us : List Value} [s : SelR H b E sz [us] 1 R] (hl : us.length = sz) (h1 : us.all (·.oneCell') = true) : Rd M H (.slice (some ⟨b, 0, Option.none⟩) 1 1) sz [us] := Rd.one hl h1 s.ent

theorem len_ok {n bytes : Nat} (hby : Nat.blt 0 bytes = true) (hb : n * bytes ≤ 140737488355328) : n ≤ maxLen := by
  have h1 : 1 ≤ bytes := by have : 0 < bytes := by simpa using hby
                            omega
  have h2 : n * 1 ≤ n * bytes := Nat.mul_le_mul_left _ h1
  simp only [maxLen]; omega
variable {E0 : Env} {Hq He Re : List HP} {p : Plan} {eff : List Nat}
theorem qa_append {i d sz bytes : Nat} {rows rows2 : List (List Value)} (hT : P.underlying T = some (.slice E)) (hE : EL P E sz bytes) (hsz : Nat.blt 0 sz = true) (hby : Nat.blt 0 bytes = true) (l : List Src) (hac : acB ops = true) (hds : dstB ops = true) (hi : ops[i]? = some o) (hn : getP p i = Option.none) (hd : o.dst = some d) (hN : Nat.blt d N = true) (hs : srcB ops i l = true) (hrest : restB ops p i = true) (hg : GdW ops (srcEnv p E0 l) o)
    (hop : o.op = .call { callee := .builtin .append, args := #[x, y], argTypes := #[T, T] }) (hx : evo (srcEnv p E0 l) x = some (true, v)) (hy : evo (srcEnv p E0 l) y = some (true, u)) [s : SelS He v E sz rows Re] (hr : Rd M (He ++ Hq) u sz rows2)
    (hb : (rows.length + rows2.length) * bytes ≤ 140737488355328)
    (h : ∀ v', QM P F N M K ops E0 Hq ((i, some (d, true, v')) :: p) (i :: eff) (sl v' E sz (rows ++ rows2) :: Re)) : QM P F N M K ops E0 Hq p eff He :=
  qm_append hT hE (by simpa using hsz) l hac hds hi hn hd hN hs hrest hg hop hx hy s.ent hr hb (len_ok hby hb) h
theorem qm_bslice1 {i d sz : Nat} {zl us : List Value} (hT : P.underlying T = some (.slice E)) (hE : SizeIs P E sz) (zr : ZR P E zl) (hzl : Nat.beq zl.length sz = true) (l : List Src) (hac : acB ops = true) (hds : dstB ops = true) (hi : ops[i]? = some o) (hn : getP p i = Option.none) (hd : o.dst = some d) (hN : Nat.blt d N = true) (hs : srcB ops i l = true) (hrest : restB ops p i = true) (hg : GdW ops (srcEnv p E0 l) o)
    (hop : o.op = .buildSlice T 1 #[(0, x)]) (hx : evo (srcEnv p E0 l) x = some (true, v)) (hu : v.cells = us.toArray) (hl : us.length = sz) (h1 : us.all (·.oneCell') = true) (hsz : Nat.ble sz 16777216 = true)
    (h : ∀ b, QM P F N M K ops E0 Hq ((i, some (d, true, .slice (some ⟨b, 0, Option.none⟩) 1 1)) :: p) (i :: eff) (arr b E sz [us] 1 :: He)) : QM P F N M K ops E0 Hq p eff He :=
  qm_e l hac hds hi hn hd hN hs hrest hg (hg.opx (x_bslice1 (o := (ung o)) hT hE zr hzl hx hu hl h1 hsz hN hop rfl hd fun b => ⟨_, arr b E sz [us] 1 :: He, by simp [look], rfl, h b⟩))
section short
variable {d : Nat} {ty : TypeId} {ps : String} {af : Array Edge}
theorem p_idx {sz i : Nat} {rows : List (List Value)} {r : List Value} (hT : P.underlying T = some (.slice E)) (hE : SizeIs P E sz) (hr : Rd M H' v sz rows) (hn : n = (i : Int)) (hrow : rows[i]? = some r) (hx : evo env x = some (true, v)) (hy : evo env y = some (true, .int k n)) (hN : Nat.blt d N = true)
    (h : Ops P F N M K ops rest ((d, true, ptrAt v (i * sz)) :: env) H) : Ops P F N M K ops (⟨some d, .indexAddr T x y, ty, ps, af, Option.none⟩ :: rest) env H := l_op (x_p (pv_idx hT hE hr (fun _ => ⟨hn, hrow⟩) (.n rfl) rfl hx hy (fun _ => ⟨rfl, rfl⟩)) rfl hN h)
theorem p_faat {s : TypeId} {f fo q : Nat} (fa : faB P s f fo = true) (hv : ∃ b off l c, v = .slice (some ⟨b, off, Option.none⟩) l c) (hx : evo env x = some (true, ptrAt v q)) (hN : Nat.blt d N = true) (h : Ops P F N M K ops rest ((d, true, ptrAt v (q + fo)) :: env) H) :
    Ops P F N M K ops (⟨some d, .fieldAddr s x f, ty, ps, af, Option.none⟩ :: rest) env H := l_op (x_p (pv_faat fa (fun _ => hv) (.n rfl) rfl hx (fun _ => rfl)) rfl hN h)
theorem p_ldat {t sz i q : Nat} {rows : List (List Value)} {r : List Value} (j : Nat) (tc : tcB P t = true) (hr : Rd M H v sz rows) (hrow : rows[i]? = some r) (hx : evo env x = some (true, ptrAt v q)) (hq : q = i * sz + j) (hj : r[j]? = some u) (hN : Nat.blt d N = true) (h : Ops P F N M K ops rest ((d, true, u) :: env) H) :
    Ops P F N M K ops (⟨some d, .load t x, ty, ps, af, Option.none⟩ :: rest) env H := l_op (x_r (rv_ldat tc hr (fun _ => hrow) (.n rfl) rfl hx (fun _ => rfl) hq (fun _ => hj)) rfl hN h)
theorem p_ldats {t sz i q n : Nat} {rows : List (List Value)} {r us : List Value} (j : Nat) (ta : taB P t n = true) (hr : Rd M H v sz rows) (hrow : rows[i]? = some r) (hx : evo env x = some (true, ptrAt v q)) (hq : q = i * sz + j) (hj : Tk n (r.drop j) us) (hN : Nat.blt d N = true) (h : Ops P F N M K ops rest ((d, true, .agg us.toArray) :: env) H) :
    Ops P F N M K ops (⟨some d, .load t x, ty, ps, af, Option.none⟩ :: rest) env H := l_op (x_r (rv_ldats ta hr (fun _ => hrow) (.n rfl) rfl hx (fun _ => rfl) hq hj) rfl hN h)
theorem p_append {sz bytes : Nat} {rows rows2 : List (List Value)} (hT : P.underlying T = some (.slice E)) (hE : EL P E sz bytes) (hsz : Nat.blt 0 sz = true) (hby : Nat.blt 0 bytes = true) (hx : evo env x = some (true, v)) [s : SelS H v E sz rows R] (hy : evo env y = some (true, u)) (hN : Nat.blt d N = true) (hr : Rd M H u sz rows2)
    (hb : (rows.length + rows2.length) * bytes ≤ 140737488355328) (h : ∀ v', Ops P F N M K ops rest ((d, true, v') :: env) (sl v' E sz (rows ++ rows2) :: R)) :
    Ops P F N M K ops (⟨some d, .call { callee := .builtin .append, args := #[x, y], argTypes := #[T, T] }, ty, ps, af, Option.none⟩ :: rest) env H :=
  l_op (x_append hT hE (by simpa using hsz) s.ent hr hb (len_ok hby hb) rfl rfl rfl hN hx hy h)
theorem p_bslice1 {sz : Nat} {zl us : List Value} {x : Operand} (hT : P.underlying T = some (.slice E)) (hE : SizeIs P E sz) (zr : ZR P E zl) (hzl : Nat.beq zl.length sz = true) (hx : evo env x = some (true, v)) (hu : v.cells = us.toArray) (hl : us.length = sz) (h1 : us.all (·.oneCell') = true) (hsz : Nat.ble sz 16777216 = true) (hN : Nat.blt d N = true)
    (h : ∀ b, Ops P F N M K ops rest ((d, true, .slice (some ⟨b, 0, Option.none⟩) 1 1) :: env) (arr b E sz [us] 1 :: H)) : Ops P F N M K ops (⟨some d, .buildSlice T 1 #[(0, x)], ty, ps, af, Option.none⟩ :: rest) env H :=
  l_op (x_bslice1 hT hE zr hzl hx hu hl h1 hsz hN rfl rfl rfl h)
end short

end Go.Proofs.YtmakdilmibjpbabGreatDoor

namespace Go.Proofs.YtmakdilmibjpbabGreatDoor
open Go Go.RowKit

variable {P : Program} {F : Exit → Act → World → Prop} {N : Nat} {M : Amb} {env eb : Env} {H H' R : List HP} {K : List KI}

theorem run_goal {c : Code} {φ ψ : Act → World → Prop} (h : ∀ a w, φ a w → ψ a w) (r : Run P F N M (.code c :: .goal φ :: K) env H) : Run P F N M (.code c :: .goal ψ :: K) env H := by
  intro a w hf ho
  refine wp_mono (r a w hf ho) ?_
  intro e a' w' hq
  cases e with
  | normal => exact h _ _ hq
  | _ => exact hq
theorem r_cut {c : Code} {φ : Act → World → Prop} (first : Run P F N M (.code c :: .goal φ :: K) env H) (next : ∀ a w, φ a w → post P F K .normal a w) : Run P F N M (.code c :: K) env H := by
  intro a w hf ho
  refine wp_mono (first a w hf ho) ?_
  intro e a' w' hq
  cases e with
  | normal => exact next _ _ hq
  | _ => exact hq

theorem r_loop_1 {α1 : Type} {c : Code} (E : α1 → Env) (hb : Keep env eb) (Hh : α1 → List HP) (Inv : α1 → Prop) (μ : α1 → Nat) (x1 : α1) (hi : Inv x1) (hk : Keep env (E x1)) (he : Ent H (Hh x1))
    (round : ∀ x1, Inv x1 → Run P F N M (.code c :: .goal (fun a w => ∃ y1, (Inv y1 ∧ μ y1 < μ x1) ∧ Fits N (E y1 ++ eb) a ∧ Own M (Hh y1) w) :: K) (E x1 ++ eb) (Hh x1)) :
    Run P F N M (.code (.loop c) :: K) env H :=
  r_loop (α := α1) (fun x => E x ++ eb) (fun x => Hh x) (fun x => Inv x) (fun x => μ x) x1 hi (hk.app hb) he fun x hx => run_goal (fun _ _ ⟨y1, h⟩ => ⟨y1, h⟩) (round x hx)
theorem r_back_1 {α1 : Type} {E : α1 → Env} {Hh : α1 → List HP} {Inv : α1 → Prop} {μ : α1 → Nat} {m : Nat} (y1 : α1) (hi : Inv y1) (hm : μ y1 < m) (hk : Keep env (E y1 ++ eb)) (he : Ent H (Hh y1)) :
    Run P F N M (.goal (fun a w => ∃ y1, (Inv y1 ∧ μ y1 < m) ∧ Fits N (E y1 ++ eb) a ∧ Own M (Hh y1) w) :: K) env H :=
  fun _ _ hf ho => ⟨y1, ⟨hi, hm⟩, hf.keep hk, ho.ent he⟩
theorem r_cut_1 {α1 : Type} {c : Code} (E : α1 → Env) (_ : Keep env eb) (Hh : α1 → List HP) (Inv : α1 → Prop)
    (first : Run P F N M (.code c :: .goal (fun a w => ∃ y1, Inv y1 ∧ Fits N (E y1 ++ eb) a ∧ Own M (Hh y1) w) :: K) env H) (next : ∀ x1, Inv x1 → Run P F N M K (E x1 ++ eb) (Hh x1)) : Run P F N M (.code c :: K) env H :=
  r_cut first fun _ _ ⟨y1, hi, hf, ho⟩ => next y1 hi _ _ hf ho
theorem r_join_1 {α1 : Type} {E : α1 → Env} {Hh : α1 → List HP} {Inv : α1 → Prop} (y1 : α1) (hi : Inv y1) (hk : Keep env (E y1 ++ eb)) (he : Ent H (Hh y1)) :
    Run P F N M (.goal (fun a w => ∃ y1, Inv y1 ∧ Fits N (E y1 ++ eb) a ∧ Own M (Hh y1) w) :: K) env H :=
  fun _ _ hf ho => ⟨y1, hi, hf.keep hk, ho.ent he⟩

theorem r_loop_2 {α1 α2 : Type} {c : Code} (E : α1 → α2 → Env) (hb : Keep env eb) (Hh : α1 → α2 → List HP) (Inv : α1 → α2 → Prop) (μ : α1 → α2 → Nat) (x1 : α1) (x2 : α2) (hi : Inv x1 x2) (hk : Keep env (E x1 x2)) (he : Ent H (Hh x1 x2))
    (round : ∀ x1 x2, Inv x1 x2 → Run P F N M (.code c :: .goal (fun a w => ∃ y1 y2, (Inv y1 y2 ∧ μ y1 y2 < μ x1 x2) ∧ Fits N (E y1 y2 ++ eb) a ∧ Own M (Hh y1 y2) w) :: K) (E x1 x2 ++ eb) (Hh x1 x2)) :
    Run P F N M (.code (.loop c) :: K) env H :=
  r_loop (α := α1 × α2) (fun x => E x.1 x.2 ++ eb) (fun x => Hh x.1 x.2) (fun x => Inv x.1 x.2) (fun x => μ x.1 x.2) (x1, x2) hi (hk.app hb) he fun x hx => run_goal (fun _ _ ⟨y1, y2, h⟩ => ⟨(y1, y2), h⟩) (round x.1 x.2 hx)
theorem r_back_2 {α1 α2 : Type} {E : α1 → α2 → Env} {Hh : α1 → α2 → List HP} {Inv : α1 → α2 → Prop} {μ : α1 → α2 → Nat} {m : Nat} (y1 : α1) (y2 : α2) (hi : Inv y1 y2) (hm : μ y1 y2 < m) (hk : Keep env (E y1 y2 ++ eb)) (he : Ent H (Hh y1 y2)) :
    Run P F N M (.goal (fun a w => ∃ y1 y2, (Inv y1 y2 ∧ μ y1 y2 < m) ∧ Fits N (E y1 y2 ++ eb) a ∧ Own M (Hh y1 y2) w) :: K) env H :=
  fun _ _ hf ho => ⟨y1, y2, ⟨hi, hm⟩, hf.keep hk, ho.ent he⟩
theorem r_cut_2 {α1 α2 : Type} {c : Code} (E : α1 → α2 → Env) (_ : Keep env eb) (Hh : α1 → α2 → List HP) (Inv : α1 → α2 → Prop)
    (first : Run P F N M (.code c :: .goal (fun a w => ∃ y1 y2, Inv y1 y2 ∧ Fits N (E y1 y2 ++ eb) a ∧ Own M (Hh y1 y2) w) :: K) env H) (next : ∀ x1 x2, Inv x1 x2 → Run P F N M K (E x1 x2 ++ eb) (Hh x1 x2)) : Run P F N M (.code c :: K) env H :=
  r_cut first fun _ _ ⟨y1, y2, hi, hf, ho⟩ => next y1 y2 hi _ _ hf ho
theorem r_join_2 {α1 α2 : Type} {E : α1 → α2 → Env} {Hh : α1 → α2 → List HP} {Inv : α1 → α2 → Prop} (y1 : α1) (y2 : α2) (hi : Inv y1 y2) (hk : Keep env (E y1 y2 ++ eb)) (he : Ent H (Hh y1 y2)) :
    Run P F N M (.goal (fun a w => ∃ y1 y2, Inv y1 y2 ∧ Fits N (E y1 y2 ++ eb) a ∧ Own M (Hh y1 y2) w) :: K) env H :=
  fun _ _ hf ho => ⟨y1, y2, hi, hf.keep hk, ho.ent he⟩

theorem r_loop_3 {α1 α2 α3 : Type} {c : Code} (E : α1 → α2 → α3 → Env) (hb : Keep env eb) (Hh : α1 → α2 → α3 → List HP) (Inv : α1 → α2 → α3 → Prop) (μ : α1 → α2 → α3 → Nat) (x1 : α1) (x2 : α2) (x3 : α3) (hi : Inv x1 x2 x3) (hk : Keep env (E x1 x2 x3)) (he : Ent H (Hh x1 x2 x3))
    (round : ∀ x1 x2 x3, Inv x1 x2 x3 → Run P F N M (.code c :: .goal (fun a w => ∃ y1 y2 y3, (Inv y1 y2 y3 ∧ μ y1 y2 y3 < μ x1 x2 x3) ∧ Fits N (E y1 y2 y3 ++ eb) a ∧ Own M (Hh y1 y2 y3) w) :: K) (E x1 x2 x3 ++ eb) (Hh x1 x2 x3)) :
    Run P F N M (.code (.loop c) :: K) env H :=
  r_loop (α := α1 × α2 × α3) (fun x => E x.1 x.2.1 x.2.2 ++ eb) (fun x => Hh x.1 x.2.1 x.2.2) (fun x => Inv x.1 x.2.1 x.2.2) (fun x => μ x.1 x.2.1 x.2.2) (x1, x2, x3) hi (hk.app hb) he fun x hx => run_goal (fun _ _ ⟨y1, y2, y3, h⟩ => ⟨(y1, y2, y3), h⟩) (round x.1 x.2.1 x.2.2 hx)
theorem r_back_3 {α1 α2 α3 : Type} {E : α1 → α2 → α3 → Env} {Hh : α1 → α2 → α3 → List HP} {Inv : α1 → α2 → α3 → Prop} {μ : α1 → α2 → α3 → Nat} {m : Nat} (y1 : α1) (y2 : α2) (y3 : α3) (hi : Inv y1 y2 y3) (hm : μ y1 y2 y3 < m) (hk : Keep env (E y1 y2 y3 ++ eb)) (he : Ent H (Hh y1 y2 y3)) :
    Run P F N M (.goal (fun a w => ∃ y1 y2 y3, (Inv y1 y2 y3 ∧ μ y1 y2 y3 < m) ∧ Fits N (E y1 y2 y3 ++ eb) a ∧ Own M (Hh y1 y2 y3) w) :: K) env H :=
  fun _ _ hf ho => ⟨y1, y2, y3, ⟨hi, hm⟩, hf.keep hk, ho.ent he⟩
theorem r_cut_3 {α1 α2 α3 : Type} {c : Code} (E : α1 → α2 → α3 → Env) (_ : Keep env eb) (Hh : α1 → α2 → α3 → List HP) (Inv : α1 → α2 → α3 → Prop)
    (first : Run P F N M (.code c :: .goal (fun a w => ∃ y1 y2 y3, Inv y1 y2 y3 ∧ Fits N (E y1 y2 y3 ++ eb) a ∧ Own M (Hh y1 y2 y3) w) :: K) env H) (next : ∀ x1 x2 x3, Inv x1 x2 x3 → Run P F N M K (E x1 x2 x3 ++ eb) (Hh x1 x2 x3)) : Run P F N M (.code c :: K) env H :=
  r_cut first fun _ _ ⟨y1, y2, y3, hi, hf, ho⟩ => next y1 y2 y3 hi _ _ hf ho
theorem r_join_3 {α1 α2 α3 : Type} {E : α1 → α2 → α3 → Env} {Hh : α1 → α2 → α3 → List HP} {Inv : α1 → α2 → α3 → Prop} (y1 : α1) (y2 : α2) (y3 : α3) (hi : Inv y1 y2 y3) (hk : Keep env (E y1 y2 y3 ++ eb)) (he : Ent H (Hh y1 y2 y3)) :
    Run P F N M (.goal (fun a w => ∃ y1 y2 y3, Inv y1 y2 y3 ∧ Fits N (E y1 y2 y3 ++ eb) a ∧ Own M (Hh y1 y2 y3) w) :: K) env H :=
  fun _ _ hf ho => ⟨y1, y2, y3, hi, hf.keep hk, ho.ent he⟩

theorem r_loop_4 {α1 α2 α3 α4 : Type} {c : Code} (E : α1 → α2 → α3 → α4 → Env) (hb : Keep env eb) (Hh : α1 → α2 → α3 → α4 → List HP) (Inv : α1 → α2 → α3 → α4 → Prop) (μ : α1 → α2 → α3 → α4 → Nat) (x1 : α1) (x2 : α2) (x3 : α3) (x4 : α4) (hi : Inv x1 x2 x3 x4) (hk : Keep env (E x1 x2 x3 x4)) (he : Ent H (Hh x1 x2 x3 x4))
    (round : ∀ x1 x2 x3 x4, Inv x1 x2 x3 x4 → Run P F N M (.code c :: .goal (fun a w => ∃ y1 y2 y3 y4, (Inv y1 y2 y3 y4 ∧ μ y1 y2 y3 y4 < μ x1 x2 x3 x4) ∧ Fits N (E y1 y2 y3 y4 ++ eb) a ∧ Own M (Hh y1 y2 y3 y4) w) :: K) (E x1 x2 x3 x4 ++ eb) (Hh x1 x2 x3 x4)) :
    Run P F N M (.code (.loop c) :: K) env H :=
  r_loop (α := α1 × α2 × α3 × α4) (fun x => E x.1 x.2.1 x.2.2.1 x.2.2.2 ++ eb) (fun x => Hh x.1 x.2.1 x.2.2.1 x.2.2.2) (fun x => Inv x.1 x.2.1 x.2.2.1 x.2.2.2) (fun x => μ x.1 x.2.1 x.2.2.1 x.2.2.2) (x1, x2, x3, x4) hi (hk.app hb) he fun x hx => run_goal (fun _ _ ⟨y1, y2, y3, y4, h⟩ => ⟨(y1, y2, y3, y4), h⟩) (round x.1 x.2.1 x.2.2.1 x.2.2.2 hx)
theorem r_back_4 {α1 α2 α3 α4 : Type} {E : α1 → α2 → α3 → α4 → Env} {Hh : α1 → α2 → α3 → α4 → List HP} {Inv : α1 → α2 → α3 → α4 → Prop} {μ : α1 → α2 → α3 → α4 → Nat} {m : Nat} (y1 : α1) (y2 : α2) (y3 : α3) (y4 : α4) (hi : Inv y1 y2 y3 y4) (hm : μ y1 y2 y3 y4 < m) (hk : Keep env (E y1 y2 y3 y4 ++ eb)) (he : Ent H (Hh y1 y2 y3 y4)) :
    Run P F N M (.goal (fun a w => ∃ y1 y2 y3 y4, (Inv y1 y2 y3 y4 ∧ μ y1 y2 y3 y4 < m) ∧ Fits N (E y1 y2 y3 y4 ++ eb) a ∧ Own M (Hh y1 y2 y3 y4) w) :: K) env H :=
  fun _ _ hf ho => ⟨y1, y2, y3, y4, ⟨hi, hm⟩, hf.keep hk, ho.ent he⟩
theorem r_cut_4 {α1 α2 α3 α4 : Type} {c : Code} (E : α1 → α2 → α3 → α4 → Env) (_ : Keep env eb) (Hh : α1 → α2 → α3 → α4 → List HP) (Inv : α1 → α2 → α3 → α4 → Prop)
    (first : Run P F N M (.code c :: .goal (fun a w => ∃ y1 y2 y3 y4, Inv y1 y2 y3 y4 ∧ Fits N (E y1 y2 y3 y4 ++ eb) a ∧ Own M (Hh y1 y2 y3 y4) w) :: K) env H) (next : ∀ x1 x2 x3 x4, Inv x1 x2 x3 x4 → Run P F N M K (E x1 x2 x3 x4 ++ eb) (Hh x1 x2 x3 x4)) : Run P F N M (.code c :: K) env H :=
  r_cut first fun _ _ ⟨y1, y2, y3, y4, hi, hf, ho⟩ => next y1 y2 y3 y4 hi _ _ hf ho
theorem r_join_4 {α1 α2 α3 α4 : Type} {E : α1 → α2 → α3 → α4 → Env} {Hh : α1 → α2 → α3 → α4 → List HP} {Inv : α1 → α2 → α3 → α4 → Prop} (y1 : α1) (y2 : α2) (y3 : α3) (y4 : α4) (hi : Inv y1 y2 y3 y4) (hk : Keep env (E y1 y2 y3 y4 ++ eb)) (he : Ent H (Hh y1 y2 y3 y4)) :
    Run P F N M (.goal (fun a w => ∃ y1 y2 y3 y4, Inv y1 y2 y3 y4 ∧ Fits N (E y1 y2 y3 y4 ++ eb) a ∧ Own M (Hh y1 y2 y3 y4) w) :: K) env H :=
  fun _ _ hf ho => ⟨y1, y2, y3, y4, hi, hf.keep hk, ho.ent he⟩

theorem r_loop_5 {α1 α2 α3 α4 α5 : Type} {c : Code} (E : α1 → α2 → α3 → α4 → α5 → Env) (hb : Keep env eb) (Hh : α1 → α2 → α3 → α4 → α5 → List HP) (Inv : α1 → α2 → α3 → α4 → α5 → Prop) (μ : α1 → α2 → α3 → α4 → α5 → Nat) (x1 : α1) (x2 : α2) (x3 : α3) (x4 : α4) (x5 : α5) (hi : Inv x1 x2 x3 x4 x5) (hk : Keep env (E x1 x2 x3 x4 x5)) (he : Ent H (Hh x1 x2 x3 x4 x5))
    (round : ∀ x1 x2 x3 x4 x5, Inv x1 x2 x3 x4 x5 → Run P F N M (.code c :: .goal (fun a w => ∃ y1 y2 y3 y4 y5, (Inv y1 y2 y3 y4 y5 ∧ μ y1 y2 y3 y4 y5 < μ x1 x2 x3 x4 x5) ∧ Fits N (E y1 y2 y3 y4 y5 ++ eb) a ∧ Own M (Hh y1 y2 y3 y4 y5) w) :: K) (E x1 x2 x3 x4 x5 ++ eb) (Hh x1 x2 x3 x4 x5)) :
    Run P F N M (.code (.loop c) :: K) env H :=
  r_loop (α := α1 × α2 × α3 × α4 × α5) (fun x => E x.1 x.2.1 x.2.2.1 x.2.2.2.1 x.2.2.2.2 ++ eb) (fun x => Hh x.1 x.2.1 x.2.2.1 x.2.2.2.1 x.2.2.2.2) (fun x => Inv x.1 x.2.1 x.2.2.1 x.2.2.2.1 x.2.2.2.2) (fun x => μ x.1 x.2.1 x.2.2.1 x.2.2.2.1 x.2.2.2.2) (x1, x2, x3, x4, x5) hi (hk.app hb) he fun x hx => run_goal (fun _ _ ⟨y1, y2, y3, y4, y5, h⟩ => ⟨(y1, y2, y3, y4, y5), h⟩) (round x.1 x.2.1 x.2.2.1 x.2.2.2.1 x.2.2.2.2 hx)
theorem r_back_5 {α1 α2 α3 α4 α5 : Type} {E : α1 → α2 → α3 → α4 → α5 → Env} {Hh : α1 → α2 → α3 → α4 → α5 → List HP} {Inv : α1 → α2 → α3 → α4 → α5 → Prop} {μ : α1 → α2 → α3 → α4 → α5 → Nat} {m : Nat} (y1 : α1) (y2 : α2) (y3 : α3) (y4 : α4) (y5 : α5) (hi : Inv y1 y2 y3 y4 y5) (hm : μ y1 y2 y3 y4 y5 < m) (hk : Keep env (E y1 y2 y3 y4 y5 ++ eb)) (he : Ent H (Hh y1 y2 y3 y4 y5)) :
    Run P F N M (.goal (fun a w => ∃ y1 y2 y3 y4 y5, (Inv y1 y2 y3 y4 y5 ∧ μ y1 y2 y3 y4 y5 < m) ∧ Fits N (E y1 y2 y3 y4 y5 ++ eb) a ∧ Own M (Hh y1 y2 y3 y4 y5) w) :: K) env H :=
  fun _ _ hf ho => ⟨y1, y2, y3, y4, y5, ⟨hi, hm⟩, hf.keep hk, ho.ent he⟩
theorem r_cut_5 {α1 α2 α3 α4 α5 : Type} {c : Code} (E : α1 → α2 → α3 → α4 → α5 → Env) (_ : Keep env eb) (Hh : α1 → α2 → α3 → α4 → α5 → List HP) (Inv : α1 → α2 → α3 → α4 → α5 → Prop)
    (first : Run P F N M (.code c :: .goal (fun a w => ∃ y1 y2 y3 y4 y5, Inv y1 y2 y3 y4 y5 ∧ Fits N (E y1 y2 y3 y4 y5 ++ eb) a ∧ Own M (Hh y1 y2 y3 y4 y5) w) :: K) env H) (next : ∀ x1 x2 x3 x4 x5, Inv x1 x2 x3 x4 x5 → Run P F N M K (E x1 x2 x3 x4 x5 ++ eb) (Hh x1 x2 x3 x4 x5)) : Run P F N M (.code c :: K) env H :=
  r_cut first fun _ _ ⟨y1, y2, y3, y4, y5, hi, hf, ho⟩ => next y1 y2 y3 y4 y5 hi _ _ hf ho
theorem r_join_5 {α1 α2 α3 α4 α5 : Type} {E : α1 → α2 → α3 → α4 → α5 → Env} {Hh : α1 → α2 → α3 → α4 → α5 → List HP} {Inv : α1 → α2 → α3 → α4 → α5 → Prop} (y1 : α1) (y2 : α2) (y3 : α3) (y4 : α4) (y5 : α5) (hi : Inv y1 y2 y3 y4 y5) (hk : Keep env (E y1 y2 y3 y4 y5 ++ eb)) (he : Ent H (Hh y1 y2 y3 y4 y5)) :
    Run P F N M (.goal (fun a w => ∃ y1 y2 y3 y4 y5, Inv y1 y2 y3 y4 y5 ∧ Fits N (E y1 y2 y3 y4 y5 ++ eb) a ∧ Own M (Hh y1 y2 y3 y4 y5) w) :: K) env H :=
  fun _ _ hf ho => ⟨y1, y2, y3, y4, y5, hi, hf.keep hk, ho.ent he⟩

theorem r_loop_6 {α1 α2 α3 α4 α5 α6 : Type} {c : Code} (E : α1 → α2 → α3 → α4 → α5 → α6 → Env) (hb : Keep env eb) (Hh : α1 → α2 → α3 → α4 → α5 → α6 → List HP) (Inv : α1 → α2 → α3 → α4 → α5 → α6 → Prop) (μ : α1 → α2 → α3 → α4 → α5 → α6 → Nat) (x1 : α1) (x2 : α2) (x3 : α3) (x4 : α4) (x5 : α5) (x6 : α6) (hi : Inv x1 x2 x3 x4 x5 x6) (hk : Keep env (E x1 x2 x3 x4 x5 x6)) (he : Ent H (Hh x1 x2 x3 x4 x5 x6))
    (round : ∀ x1 x2 x3 x4 x5 x6, Inv x1 x2 x3 x4 x5 x6 → Run P F N M (.code c :: .goal (fun a w => ∃ y1 y2 y3 y4 y5 y6, (Inv y1 y2 y3 y4 y5 y6 ∧ μ y1 y2 y3 y4 y5 y6 < μ x1 x2 x3 x4 x5 x6) ∧ Fits N (E y1 y2 y3 y4 y5 y6 ++ eb) a ∧ Own M (Hh y1 y2 y3 y4 y5 y6) w) :: K) (E x1 x2 x3 x4 x5 x6 ++ eb) (Hh x1 x2 x3 x4 x5 x6)) :
    Run P F N M (.code (.loop c) :: K) env H :=
  r_loop (α := α1 × α2 × α3 × α4 × α5 × α6) (fun x => E x.1 x.2.1 x.2.2.1 x.2.2.2.1 x.2.2.2.2.1 x.2.2.2.2.2 ++ eb) (fun x => Hh x.1 x.2.1 x.2.2.1 x.2.2.2.1 x.2.2.2.2.1 x.2.2.2.2.2) (fun x => Inv x.1 x.2.1 x.2.2.1 x.2.2.2.1 x.2.2.2.2.1 x.2.2.2.2.2) (fun x => μ x.1 x.2.1 x.2.2.1 x.2.2.2.1 x.2.2.2.2.1 x.2.2.2.2.2) (x1, x2, x3, x4, x5, x6) hi (hk.app hb) he fun x hx => run_goal (fun _ _ ⟨y1, y2, y3, y4, y5, y6, h⟩ => ⟨(y1, y2, y3, y4, y5, y6), h⟩) (round x.1 x.2.1 x.2.2.1 x.2.2.2.1 x.2.2.2.2.1 x.2.2.2.2.2 hx)
theorem r_back_6 {α1 α2 α3 α4 α5 α6 : Type} {E : α1 → α2 → α3 → α4 → α5 → α6 → Env} {Hh : α1 → α2 → α3 → α4 → α5 → α6 → List HP} {Inv : α1 → α2 → α3 → α4 → α5 → α6 → Prop} {μ : α1 → α2 → α3 → α4 → α5 → α6 → Nat} {m : Nat} (y1 : α1) (y2 : α2) (y3 : α3) (y4 : α4) (y5 : α5) (y6 : α6) (hi : Inv y1 y2 y3 y4 y5 y6) (hm : μ y1 y2 y3 y4 y5 y6 < m) (hk : Keep env (E y1 y2 y3 y4 y5 y6 ++ eb)) (he : Ent H (Hh y1 y2 y3 y4 y5 y6)) :
    Run P F N M (.goal (fun a w => ∃ y1 y2 y3 y4 y5 y6, (Inv y1 y2 y3 y4 y5 y6 ∧ μ y1 y2 y3 y4 y5 y6 < m) ∧ Fits N (E y1 y2 y3 y4 y5 y6 ++ eb) a ∧ Own M (Hh y1 y2 y3 y4 y5 y6) w) :: K) env H :=
  fun _ _ hf ho => ⟨y1, y2, y3, y4, y5, y6, ⟨hi, hm⟩, hf.keep hk, ho.ent he⟩
theorem r_cut_6 {α1 α2 α3 α4 α5 α6 : Type} {c : Code} (E : α1 → α2 → α3 → α4 → α5 → α6 → Env) (_ : Keep env eb) (Hh : α1 → α2 → α3 → α4 → α5 → α6 → List HP) (Inv : α1 → α2 → α3 → α4 → α5 → α6 → Prop)
    (first : Run P F N M (.code c :: .goal (fun a w => ∃ y1 y2 y3 y4 y5 y6, Inv y1 y2 y3 y4 y5 y6 ∧ Fits N (E y1 y2 y3 y4 y5 y6 ++ eb) a ∧ Own M (Hh y1 y2 y3 y4 y5 y6) w) :: K) env H) (next : ∀ x1 x2 x3 x4 x5 x6, Inv x1 x2 x3 x4 x5 x6 → Run P F N M K (E x1 x2 x3 x4 x5 x6 ++ eb) (Hh x1 x2 x3 x4 x5 x6)) : Run P F N M (.code c :: K) env H :=
  r_cut first fun _ _ ⟨y1, y2, y3, y4, y5, y6, hi, hf, ho⟩ => next y1 y2 y3 y4 y5 y6 hi _ _ hf ho
theorem r_join_6 {α1 α2 α3 α4 α5 α6 : Type} {E : α1 → α2 → α3 → α4 → α5 → α6 → Env} {Hh : α1 → α2 → α3 → α4 → α5 → α6 → List HP} {Inv : α1 → α2 → α3 → α4 → α5 → α6 → Prop} (y1 : α1) (y2 : α2) (y3 : α3) (y4 : α4) (y5 : α5) (y6 : α6) (hi : Inv y1 y2 y3 y4 y5 y6) (hk : Keep env (E y1 y2 y3 y4 y5 y6 ++ eb)) (he : Ent H (Hh y1 y2 y3 y4 y5 y6)) :
    Run P F N M (.goal (fun a w => ∃ y1 y2 y3 y4 y5 y6, Inv y1 y2 y3 y4 y5 y6 ∧ Fits N (E y1 y2 y3 y4 y5 y6 ++ eb) a ∧ Own M (Hh y1 y2 y3 y4 y5 y6) w) :: K) env H :=
  fun _ _ hf ho => ⟨y1, y2, y3, y4, y5, y6, hi, hf.keep hk, ho.ent he⟩

theorem r_loop_7 {α1 α2 α3 α4 α5 α6 α7 : Type} {c : Code} (E : α1 → α2 → α3 → α4 → α5 → α6 → α7 → Env) (hb : Keep env eb) (Hh : α1 → α2 → α3 → α4 → α5 → α6 → α7 → List HP) (Inv : α1 → α2 → α3 → α4 → α5 → α6 → α7 → Prop) (μ : α1 → α2 → α3 → α4 → α5 → α6 → α7 → Nat) (x1 : α1) (x2 : α2) (x3 : α3) (x4 : α4) (x5 : α5) (x6 : α6) (x7 : α7) (hi : Inv x1 x2 x3 x4 x5 x6 x7) (hk : Keep env (E x1 x2 x3 x4 x5 x6 x7)) (he : Ent H (Hh x1 x2 x3 x4 x5 x6 x7))
    (round : ∀ x1 x2 x3 x4 x5 x6 x7, Inv x1 x2 x3 x4 x5 x6 x7 → Run P F N M (.code c :: .goal (fun a w => ∃ y1 y2 y3 y4 y5 y6 y7, (Inv y1 y2 y3 y4 y5 y6 y7 ∧ μ y1 y2 y3 y4 y5 y6 y7 < μ x1 x2 x3 x4 x5 x6 x7) ∧ Fits N (E y1 y2 y3 y4 y5 y6 y7 ++ eb) a ∧ Own M (Hh y1 y2 y3 y4 y5 y6 y7) w) :: K) (E x1 x2 x3 x4 x5 x6 x7 ++ eb) (Hh x1 x2 x3 x4 x5 x6 x7)) :
    Run P F N M (.code (.loop c) :: K) env H :=
  r_loop (α := α1 × α2 × α3 × α4 × α5 × α6 × α7) (fun x => E x.1 x.2.1 x.2.2.1 x.2.2.2.1 x.2.2.2.2.1 x.2.2.2.2.2.1 x.2.2.2.2.2.2 ++ eb) (fun x => Hh x.1 x.2.1 x.2.2.1 x.2.2.2.1 x.2.2.2.2.1 x.2.2.2.2.2.1 x.2.2.2.2.2.2) (fun x => Inv x.1 x.2.1 x.2.2.1 x.2.2.2.1 x.2.2.2.2.1 x.2.2.2.2.2.1 x.2.2.2.2.2.2) (fun x => μ x.1 x.2.1 x.2.2.1 x.2.2.2.1 x.2.2.2.2.1 x.2.2.2.2.2.1 x.2.2.2.2.2.2) (x1, x2, x3, x4, x5, x6, x7) hi (hk.app hb) he fun x hx => run_goal (fun _ _ ⟨y1, y2, y3, y4, y5, y6, y7, h⟩ => ⟨(y1, y2, y3, y4, y5, y6, y7), h⟩) (round x.1 x.2.1 x.2.2.1 x.2.2.2.1 x.2.2.2.2.1 x.2.2.2.2.2.1 x.2.2.2.2.2.2 hx)
theorem r_back_7 {α1 α2 α3 α4 α5 α6 α7 : Type} {E : α1 → α2 → α3 → α4 → α5 → α6 → α7 → Env} {Hh : α1 → α2 → α3 → α4 → α5 → α6 → α7 → List HP} {Inv : α1 → α2 → α3 → α4 → α5 → α6 → α7 → Prop} {μ : α1 → α2 → α3 → α4 → α5 → α6 → α7 → Nat} {m : Nat} (y1 : α1) (y2 : α2) (y3 : α3) (y4 : α4) (y5 : α5) (y6 : α6) (y7 : α7) (hi : Inv y1 y2 y3 y4 y5 y6 y7) (hm : μ y1 y2 y3 y4 y5 y6 y7 < m) (hk : Keep env (E y1 y2 y3 y4 y5 y6 y7 ++ eb)) (he : Ent H (Hh y1 y2 y3 y4 y5 y6 y7)) :
    Run P F N M (.goal (fun a w => ∃ y1 y2 y3 y4 y5 y6 y7, (Inv y1 y2 y3 y4 y5 y6 y7 ∧ μ y1 y2 y3 y4 y5 y6 y7 < m) ∧ Fits N (E y1 y2 y3 y4 y5 y6 y7 ++ eb) a ∧ Own M (Hh y1 y2 y3 y4 y5 y6 y7) w) :: K) env H :=
  fun _ _ hf ho => ⟨y1, y2, y3, y4, y5, y6, y7, ⟨hi, hm⟩, hf.keep hk, ho.ent he⟩
theorem r_cut_7 {α1 α2 α3 α4 α5 α6 α7 : Type} {c : Code} (E : α1 → α2 → α3 → α4 → α5 → α6 → α7 → Env) (_ : Keep env eb) (Hh : α1 → α2 → α3 → α4 → α5 → α6 → α7 → List HP) (Inv : α1 → α2 → α3 → α4 → α5 → α6 → α7 → Prop)
    (first : Run P F N M (.code c :: .goal (fun a w => ∃ y1 y2 y3 y4 y5 y6 y7, Inv y1 y2 y3 y4 y5 y6 y7 ∧ Fits N (E y1 y2 y3 y4 y5 y6 y7 ++ eb) a ∧ Own M (Hh y1 y2 y3 y4 y5 y6 y7) w) :: K) env H) (next : ∀ x1 x2 x3 x4 x5 x6 x7, Inv x1 x2 x3 x4 x5 x6 x7 → Run P F N M K (E x1 x2 x3 x4 x5 x6 x7 ++ eb) (Hh x1 x2 x3 x4 x5 x6 x7)) : Run P F N M (.code c :: K) env H :=
  r_cut first fun _ _ ⟨y1, y2, y3, y4, y5, y6, y7, hi, hf, ho⟩ => next y1 y2 y3 y4 y5 y6 y7 hi _ _ hf ho
theorem r_join_7 {α1 α2 α3 α4 α5 α6 α7 : Type} {E : α1 → α2 → α3 → α4 → α5 → α6 → α7 → Env} {Hh : α1 → α2 → α3 → α4 → α5 → α6 → α7 → List HP} {Inv : α1 → α2 → α3 → α4 → α5 → α6 → α7 → Prop} (y1 : α1) (y2 : α2) (y3 : α3) (y4 : α4) (y5 : α5) (y6 : α6) (y7 : α7) (hi : Inv y1 y2 y3 y4 y5 y6 y7) (hk : Keep env (E y1 y2 y3 y4 y5 y6 y7 ++ eb)) (he : Ent H (Hh y1 y2 y3 y4 y5 y6 y7)) :
    Run P F N M (.goal (fun a w => ∃ y1 y2 y3 y4 y5 y6 y7, Inv y1 y2 y3 y4 y5 y6 y7 ∧ Fits N (E y1 y2 y3 y4 y5 y6 y7 ++ eb) a ∧ Own M (Hh y1 y2 y3 y4 y5 y6 y7) w) :: K) env H :=
  fun _ _ hf ho => ⟨y1, y2, y3, y4, y5, y6, y7, hi, hf.keep hk, ho.ent he⟩


class SelX (H : List HP) (X : HP) (R : outParam (List HP)) : Prop where
  ent : Ent H (X :: R)
instance selXh {X : HP} : SelX (X :: R) X R := ⟨Ent.h⟩
instance selXt {X Y : HP} {R' : List HP} [s : SelX R X R'] : SelX (Y :: R) X (Y :: R') := ⟨Ent.t s.ent⟩
instance selXa {X : HP} {A B R' : List HP} [s : SelX B X R'] : SelX (A ++ B) X (A ++ R') := ⟨Ent.selA s.ent⟩
theorem Ent.cN {E : TypeId} {sz : Nat} {L : List HP} (k : Ent H L) : Ent H (sl (.slice Option.none 0 0) E sz [] :: L) := Ent.tr Ent.slN (Ent.mono k)
theorem r_slN (E : TypeId) (sz : Nat) (h : Run P F N M K env (sl (.slice Option.none 0 0) E sz [] :: H)) : Run P F N M K env H := r_ent Ent.slN h
theorem mapget {α β : Type} {f : α → β} {l : List α} {i : Nat} {a : α} (h : l[i]? = some a) : (l.map f)[i]? = some (f a) := by rw [List.getElem?_map, h]; rfl
theorem getlt {α : Type} {l : List α} {i : Nat} (h : i < l.length) : ∃ a, l[i]? = some a := ⟨l[i], List.getElem?_eq_getElem h⟩
theorem Rd.len {α : Type} {f : α → List Value} {v : Value} {sz : Nat} {l : List α} (h : Rd M H v sz (l.map f)) : ∃ ao c, v = .slice ao l.length c := by
  obtain ⟨ao, c, e⟩ := h.shape
  exact ⟨ao, c, by rw [e, List.length_map]⟩
theorem pv_lens {ops : Array Oper} {o : Oper} {g gx : Bool} {x : Operand} {T Tr : TypeId} {v : Value} {n : Nat} {at' : Array TypeId} (hv : ∃ ao c, v = .slice ao n c) (hs : ∃ e, P.underlying T = some (.slice e)) (hg : Gd ops env o g)
    (hop : o.op = .call { callee := .builtin .len, args := #[x], argTypes := at' }) (hT : at'[0]? = some T) (ht : o.type = Tr) (hx : evo env x = some (gx, v)) (hi : g = true → gx = true) : PV P ops o env g (.int .i64 n) := by
  obtain ⟨ao, c, rfl⟩ := hv
  exact pv_len hs hg hop hT ht hx hi
theorem Rd.to {v : Value} {sz : Nat} {rows rows' : List (List Value)} (h : Rd M H v sz rows) (e : rows = rows') : Rd M H v sz rows' := e ▸ h
theorem Rd.all {v : Value} {sz : Nat} {rows : List (List Value)} (h : Rd M [] v sz rows) : Rd M H v sz rows := h.ent Ent.nil

end Go.Proofs.YtmakdilmibjpbabGreatDoor

namespace Go.Proofs.YtmakdilmibjpbabGreatDoor
open Go Go.RowKit
set_option linter.unusedVariables false

variable {P : Program} {F : Exit → Act → World → Prop} {N : Nat} {M : Amb} {env eb : Env} {H H' R : List HP} {a : Act} {w : World} {ops : Array Oper} {o : Oper} {rest : List Oper} {K : List KI}
variable {g gx gy gz : Bool} {x y z : Operand} {v v' u ret : Value} {Rr : Env → List HP → Prop} {f : FuncId} {fn : Func} {Post : Value → List HP → Prop} {T T2 E : TypeId} {k : IntKind} {m n : Int}

/-! ### Parts that hide -/
def exS {α : Type} (L : α → List HP) : HP := fun h => ∃ x, sep (L x) h
def exP {α : Type} (φ : α → Prop) (L : α → List HP) : HP := fun h => ∃ x, φ x ∧ sep (L x) h
theorem Ent.ex {α : Type} {L : α → List HP} (x : α) : Ent (L x ++ R) (exS L :: R) := fun h hx => by
  obtain ⟨a, b, ha, hb, hd, e⟩ := sep_app hx
  exact ⟨h, ⟨a, b, ⟨x, ha⟩, hb, hd, e⟩, Hp.sub_refl h⟩
theorem Ent.exP {α : Type} {φ : α → Prop} {L : α → List HP} (x : α) (hφ : φ x) : Ent (L x ++ R) (Go.Proofs.YtmakdilmibjpbabGreatDoor.exP φ L :: R) := fun h hx => by
  obtain ⟨a, b, ha, hb, hd, e⟩ := sep_app hx
  exact ⟨h, ⟨a, b, ⟨x, hφ, ha⟩, hb, hd, e⟩, Hp.sub_refl h⟩
theorem Own.exS {α : Type} {L : α → List HP} (ho : Own M (Go.Proofs.YtmakdilmibjpbabGreatDoor.exS L :: R) w) : ∃ x, Own M (L x ++ R) w := by
  obtain ⟨hb, hs, h, ⟨a, b, ⟨x, hx⟩, hr, hd, e⟩, hh⟩ := ho
  subst e
  exact ⟨x, hb, hs, _, sep_app' hx hr hd, hh⟩
theorem Own.exP {α : Type} {φ : α → Prop} {L : α → List HP} (ho : Own M (Go.Proofs.YtmakdilmibjpbabGreatDoor.exP φ L :: R) w) : ∃ x, φ x ∧ Own M (L x ++ R) w := by
  obtain ⟨hb, hs, h, ⟨a, b, ⟨x, hφ, hx⟩, hr, hd, e⟩, hh⟩ := ho
  subst e
  exact ⟨x, hφ, hb, hs, _, sep_app' hx hr hd, hh⟩

instance catZ {A : List HP} : Cat A [] A := ⟨List.append_nil A⟩
theorem entPre {A A' : List HP} : ∀ {N : List HP}, Ent A A' → Ent (N ++ A) (N ++ A')
  | [], h => h
  | _ :: N, h => Ent.mono (entPre (N := N) h)
theorem r_cat {A B C : List HP} [c : Cat A B C] (h : Run P F N M K env C) : Run P F N M K env (A ++ B) := by rw [c.eq]; exact h
theorem o_cat {A B C : List HP} [c : Cat A B C] (h : Ops P F N M K ops rest env C) : Ops P F N M K ops rest env (A ++ B) := by rw [c.eq]; exact h
theorem Ent.catI {A B C : List HP} [c : Cat A B C] (h : Ent H C) : Ent H (A ++ B) := by rw [c.eq]; exact h
theorem r_ex {α : Type} {L : α → List HP} (h : ∀ x, Run P F N M K env (L x ++ R)) : Run P F N M K env (exS L :: R) := fun a w hf ho => let ⟨x, hx⟩ := ho.exS; h x a w hf hx
theorem r_exP {α : Type} {φ : α → Prop} {L : α → List HP} (h : ∀ x, φ x → Run P F N M K env (L x ++ R)) : Run P F N M K env (exP φ L :: R) := fun a w hf ho => let ⟨x, hφ, hx⟩ := ho.exP; h x hφ a w hf hx

/-! ### Selection that can be undone -/
theorem Ent.unA {X : HP} : ∀ {A B R : List HP}, Ent (X :: R) B → Ent (X :: (A ++ R)) (A ++ B)
  | [], _, _, h => h
  | _ :: A, _, _, h => Ent.tr Ent.swap (Ent.mono (Ent.unA (A := A) h))
class SelY (H : List HP) (X : HP) (R : outParam (List HP)) : Prop where
  ent : Ent H (X :: R)
  back : Ent (X :: R) H
instance selYh {X : HP} : SelY (X :: R) X R := ⟨Ent.h, Ent.h⟩
instance selYt {X Y : HP} {R' : List HP} [s : SelY R X R'] : SelY (Y :: R) X (Y :: R') := ⟨Ent.t s.ent, Ent.tr Ent.swap (Ent.mono s.back)⟩
instance selYa {X : HP} {A B R' : List HP} [s : SelY B X R'] : SelY (A ++ B) X (A ++ R') := ⟨Ent.selA s.ent, Ent.unA s.back⟩
class SelL (H A : List HP) (R : outParam (List HP)) : Prop where
  ent : Ent H (A ++ R)
  back : Ent (A ++ R) H
instance selLn : SelL H [] H := ⟨Ent.rfl, Ent.rfl⟩
instance selLc {X : HP} {A R1 : List HP} [s : SelY H X R1] [t : SelL R1 A R] : SelL H (X :: A) R := ⟨Ent.tr s.ent (Ent.mono t.ent), Ent.tr (Ent.mono t.back) s.back⟩

instance selBc {X : HP} {A B R : List HP} {b : Nat} {cs : List Value} {T : TypeId} [s : SelB (X :: (A ++ B)) b cs T R] : SelB ((X :: A) ++ B) b cs T R := ⟨s.ent⟩
instance selSc {X : HP} {A B R : List HP} {v : Value} {E : TypeId} {sz : Nat} {rows : List (List Value)} [s : SelS (X :: (A ++ B)) v E sz rows R] : SelS ((X :: A) ++ B) v E sz rows R := ⟨s.ent⟩
instance selRc {X : HP} {A B R : List HP} {b : Nat} {E : TypeId} {sz cap : Nat} {rows : List (List Value)} [s : SelR (X :: (A ++ B)) b E sz rows cap R] : SelR ((X :: A) ++ B) b E sz rows cap R := ⟨s.ent⟩
instance selXc {X Y : HP} {A B R : List HP} [s : SelX (X :: (A ++ B)) Y R] : SelX ((X :: A) ++ B) Y R := ⟨s.ent⟩
instance selYc {X Y : HP} {A B R : List HP} [s : SelY (X :: (A ++ B)) Y R] : SelY ((X :: A) ++ B) Y R := ⟨s.ent, s.back⟩

theorem Rd.c1 {sz : Nat} {rows : List (List Value)} (h : Rd M H v sz rows) : v.cells = [v].toArray := by obtain ⟨ao, c, rfl⟩ := h.shape; rfl
theorem Rd.o1 {sz : Nat} {rows : List (List Value)} (h : Rd M H v sz rows) : [v].all (·.oneCell') = true := by obtain ⟨ao, c, rfl⟩ := h.shape; rfl

/-! ### Contracts -/
/-- Whatever lies beside: it gives 'ret', and turns the parts A into A'. -/
def FnC (P : Program) (M : Amb) (f : FuncId) (vs : List Value) (ret : Value) (A A' : List HP) : Prop := ∀ R, FnR P M (A ++ R) f vs (fun v H' => v = ret ∧ H' = A' ++ R)
/-- The same with values that are not told. -/
def FnE {α : Type} (P : Program) (M : Amb) (f : FuncId) (vs : List Value) (A : List HP) (ret : α → Value) (A' : α → List HP) : Prop := ∀ R, FnR P M (A ++ R) f vs (fun v H' => ∃ x, v = ret x ∧ H' = A' x ++ R)
/-- Parts A stay; new ones are made. -/
def FnN {α : Type} (P : Program) (M : Amb) (f : FuncId) (vs : List Value) (A : List HP) (ret : α → Value) (New : α → List HP) : Prop := FnE P M f vs A ret (fun x => New x ++ A)
theorem fnc_intro {c : Code} {vs : List Value} {A A' : List HP} (hf : P.funcs[f]? = some fn) (hb : fn.body = some c) (hN : fn.ntmps = N) (hl : Nat.ble vs.length N = true)
    (h : ∀ R F, Fin P fn M F (fun v H' => v = ret ∧ H' = A' ++ R) → Run P F N M [.code c] (argEnv 0 vs) (A ++ R)) : FnC P M f vs ret A A' := fun R => fn_intro hf hb hN hl (h R)
theorem fne_intro {α : Type} {rt : α → Value} {c : Code} {vs : List Value} {A : List HP} {A' : α → List HP} (hf : P.funcs[f]? = some fn) (hb : fn.body = some c) (hN : fn.ntmps = N) (hl : Nat.ble vs.length N = true)
    (h : ∀ R F, Fin P fn M F (fun v H' => ∃ x, v = rt x ∧ H' = A' x ++ R) → Run P F N M [.code c] (argEnv 0 vs) (A ++ R)) : FnE P M f vs A rt A' := fun R => fn_intro hf hb hN hl (h R)
/-- A contract that turns nothing, at a place where its parts lie. -/
theorem FnC.q {vs : List Value} {A : List HP} (h : FnC P M f vs ret A A) [s : SelL H A R] : FnV P M H f vs ret := fun w ho =>
  (h R w (ho.ent s.ent)).mono fun _ _ ⟨v, H', e, ⟨h1, h2⟩, ho'⟩ => ⟨v, H, e, ⟨h1, rfl⟩, (h2 ▸ ho').ent s.back⟩
/-- A contract over what an object hides, told of the object. -/
theorem FnC.ex {α : Type} {L : α → List HP} {vs : List Value} (h : ∀ x, FnC P M f vs ret (L x) (L x)) : FnC P M f vs ret [Go.Proofs.YtmakdilmibjpbabGreatDoor.exS L] [Go.Proofs.YtmakdilmibjpbabGreatDoor.exS L] := fun R w ho => by
  obtain ⟨x, hx⟩ := (show Own M (Go.Proofs.YtmakdilmibjpbabGreatDoor.exS L :: R) w from ho).exS
  exact (h x R w hx).mono fun _ _ ⟨v, H', e, ⟨h1, h2⟩, ho'⟩ => ⟨v, _, e, ⟨h1, rfl⟩, (h2 ▸ ho').ent (Ent.ex x)⟩
theorem FnC.pre {A0 A A' : List HP} {vs : List Value} (h : ∀ R, Ent (A0 ++ R) (A ++ R)) (hc : FnC P M f vs ret A A') : FnC P M f vs ret A0 A' := fun R => FnR.pre (h R) (hc R)
theorem FnC.ofV {vs : List Value} (h : ∀ H, FnV P M H f vs ret) : FnC P M f vs ret [] [] := fun R => h R

theorem r_rete {α : Type} {rt : α → Value} {A' : α → List HP} {rs : List ResultVar} {vs : List Value} (x : α) (hF : Fin P fn M F (fun v H' => ∃ x, v = rt x ∧ H' = A' x ++ R)) (he : fn.results = rs.toArray) (hr : ResL P M env H rs vs) (hent : Ent H (A' x ++ R)) (hp : resVal vs = rt x) : Run P F N M (.code .ret :: K) env H :=
  r_ret hF he hr hent ⟨x, hp, rfl⟩
theorem r_falle {α : Type} {rt : α → Value} {A' : α → List HP} (x : α) (hF : Fin P fn M F (fun v H' => ∃ x, v = rt x ∧ H' = A' x ++ R)) (he : fn.results = #[]) (hent : Ent H (A' x ++ R)) (hp : Value.tuple #[] = rt x := by rfl) : Run P F N M [] env H :=
  r_fall _ hF he hent ⟨x, hp, rfl⟩
theorem r_fallc {H0 : List HP} (hF : Fin P fn M F (fun v H' => v = ret ∧ H' = H0)) (he : fn.results = #[]) (hent : Ent H H0) (hp : Value.tuple #[] = ret := by rfl) : Run P F N M [] env H := r_fall _ hF he hent ⟨hp, rfl⟩
theorem pv_andf (hg : Gd ops env o g) (hop : o.op = .pick x y (.const (.bool false))) (hx : evo env x = some (gx, .bool false)) (hi : g = true → gx = true) : PV P ops o env g (.bool false) :=
  fun _ _ hf => ⟨hg.wanted hf, fun e w => by have hv := hf.ev hx (hi e); simp only [execOp, hop]; rw [hv]; simp [asBool, Act.eval]⟩
theorem pv_ort (hg : Gd ops env o g) (hop : o.op = .pick x (.const (.bool true)) y) (hx : evo env x = some (gx, .bool true)) (hi : g = true → gx = true) : PV P ops o env g (.bool true) :=
  fun _ _ hf => ⟨hg.wanted hf, fun e w => by have hv := hf.ev hx (hi e); simp only [execOp, hop]; rw [hv]; simp [asBool, Act.eval]⟩
theorem exec_ung (ev : Operand → Value) (o : Oper) : execOp ev (ung o) = execOp ev o := by cases o; rfl
theorem pv_ung (hg : Gd ops env o g) (e : g = true) (h : PV P ops (ung o) env true v) : PV P ops o env true v := fun N a hf => ⟨e ▸ hg.wanted hf, fun _ w => by have := (h N a hf).2 rfl w; rwa [exec_ung] at this⟩
theorem rv_ung (hg : Gd ops env o g) (e : g = true) (h : RV P M ops (ung o) env H true v) : RV P M ops o env H true v := fun N a w hf ho => ⟨e ▸ hg.wanted hf, fun _ => by have := (h N a w hf ho).2 rfl; rwa [exec_ung] at this⟩
theorem rq_ung (hg : Gd ops env o g) (e : g = true) (h : RQ P M ops (ung o) env H true v) : RQ P M ops o env H true v := fun N a w hf ho => ⟨e ▸ hg.wanted hf, fun _ Kc Q hK => by
  have := (h N a w hf ho).2 rfl Kc Q hK
  unfold Oper.wp at this ⊢
  rw [exec_ung] at this
  exact this⟩
section short
variable {d : Nat} {ty : TypeId} {ps : String} {af : Array Edge} {A A' C : List HP} {xs : List Operand} {vs : List Value} {at' : Array TypeId}
theorem p_callc [s : SelL H A R] [c : Cat A' R C] (cf : cfB P f = true) (ha : Args env xs vs) (hN : Nat.blt d N = true) (hc : FnC P M f vs ret A A') (h : Ops P F N M K ops rest ((d, true, ret) :: env) C) :
    Ops P F N M K ops (⟨some d, .call { callee := .value (.func f), args := xs.toArray, argTypes := at' }, ty, ps, af, Option.none⟩ :: rest) env H :=
  p_call cf ha hN (FnR.pre s.ent (hc R)) (by rintro _ _ ⟨rfl, rfl⟩; rw [c.eq]; exact h)
theorem p_callc0 [s : SelL H A R] [c : Cat A' R C] (cf : cfB P f = true) (ha : Args env xs vs) (hc : FnC P M f vs ret A A') (h : Ops P F N M K ops rest env C) :
    Ops P F N M K ops (⟨Option.none, .call { callee := .value (.func f), args := xs.toArray, argTypes := at' }, ty, ps, af, Option.none⟩ :: rest) env H :=
  p_call0 cf ha (FnR.pre s.ent (hc R)) (by rintro _ _ ⟨rfl, rfl⟩; rw [c.eq]; exact h)
theorem p_calle {α : Type} {rt : α → Value} {A' : α → List HP} [s : SelL H A R] (cf : cfB P f = true) (ha : Args env xs vs) (hN : Nat.blt d N = true) (hc : FnE P M f vs A rt A') (h : ∀ x, Ops P F N M K ops rest ((d, true, rt x) :: env) (A' x ++ R)) :
    Ops P F N M K ops (⟨some d, .call { callee := .value (.func f), args := xs.toArray, argTypes := at' }, ty, ps, af, Option.none⟩ :: rest) env H :=
  p_call cf ha hN (FnR.pre s.ent (hc R)) (by rintro _ _ ⟨x, rfl, rfl⟩; exact h x)
theorem p_calle0 {α : Type} {rt : α → Value} {A' : α → List HP} [s : SelL H A R] (cf : cfB P f = true) (ha : Args env xs vs) (hc : FnE P M f vs A rt A') (h : ∀ x, Ops P F N M K ops rest env (A' x ++ R)) :
    Ops P F N M K ops (⟨Option.none, .call { callee := .value (.func f), args := xs.toArray, argTypes := at' }, ty, ps, af, Option.none⟩ :: rest) env H :=
  p_call0 cf ha (FnR.pre s.ent (hc R)) (by rintro _ _ ⟨x, rfl, rfl⟩; exact h x)
/-- A guard that lets it run; one that does not. -/
theorem o_g {dd : Option Nat} {op : Op} {gd : Option (Nat × Bool)} (hg : Gd ops env ⟨dd, op, ty, ps, af, gd⟩ g) (e : g = true) (h : Ops P F N M K ops (⟨dd, op, ty, ps, af, Option.none⟩ :: rest) env H) :
    Ops P F N M K ops (⟨dd, op, ty, ps, af, gd⟩ :: rest) env H := fun a w hf ho => by
  subst e
  have h1 := h a w hf ho
  simp only [wpList] at h1 ⊢
  rw [hg.wanted hf]
  have h2 : Region.wanted (⟨dd, op, ty, ps, af, Option.none⟩ : Oper) (yielded ops a.tmps) = true := by simp [Region.wanted]
  rw [h2] at h1
  exact h1
theorem o_ng {op : Op} {gd : Option (Nat × Bool)} (hg : Gd ops env ⟨some d, op, ty, ps, af, gd⟩ g) (e : g = false) (hN : Nat.blt d N = true) (h : Ops P F N M K ops rest ((d, false, .bool false) :: env) H) :
    Ops P F N M K ops (⟨some d, op, ty, ps, af, gd⟩ :: rest) env H := o_pass (by subst e; exact hg) rfl hN h
end short

/-! ### Barriers: an operation that waits for all that is in the plan -/
def barB (ops : Array Oper) (p : Plan) (i : Nat) : Bool := match ops[i]? with
  | some o => let r := reachL ops i (onsOf o); p.all fun e => r.contains e.1
  | Option.none => false
variable {E0 : Env} {Hq He : List HP} {p : Plan} {eff : List Nat}
/-- The next of the plan waits for all of it: all that is owned may be turned. -/
theorem qm_bar {i : Nat} {l : List Src} (hac : acB ops = true) (hds : dstB ops = true) (hi : ops[i]? = some o) (hn : getP p i = Option.none) (hs : srcB ops i l = true) (hrest : restB ops p i = true) (hbar : barB ops p i = true) (hg : GdW ops (srcEnv p E0 l) o)
    (hx : ∀ a w (Kc : Act → World → Prop) (Q : Exit → Act → World → Prop), Fits N (srcEnv p E0 l) a → Own M (He ++ Hq) w →
      (∀ x Hn w', entOk N o x → Own M Hn w' → QM P F N M K ops E0 [] ((i, x) :: p) (i :: p.map (·.1)) Hn →
        Kc (putE a x) w') → o.wp P a w Kc Q) : QM P F N M K ops E0 Hq p eff He := by
  intro hQ hD fuel
  induction fuel with
  | zero =>
    intro listed a w s hu he ho
    exfalso
    have hlt := (Array.getElem?_eq_some_iff.1 hi).1
    have hni : listed.getD i true = false := by
      cases hl : listed.getD i false with
      | true => obtain ⟨x, hx, _⟩ := s.ent i hl; rw [hn] at hx; cases hx
      | false =>
        have : i < listed.size := by rw [s.lsz]; exact hlt
        simp [this] at hl ⊢; exact hl
    have := unl_set hlt hni
    omega
  | succ fuel ih =>
    intro listed a w s hu he ho
    have hlt := (Array.getElem?_eq_some_iff.1 hi).1
    have hnl : listed.getD i false = false := by
      cases hl : listed.getD i false with
      | true => obtain ⟨x, hx, _⟩ := s.ent i hl; rw [hn] at hx; cases hx
      | false => rfl
    have hni : listed.getD i true = false := by
      have : i < listed.size := by rw [s.lsz]; exact hlt
      simp [this] at hnl ⊢; exact hnl
    refine ⟨fun hnil => absurd hnil (ready_ne hac s.lsz i hlt hni), fun j hj => ?_⟩
    obtain ⟨h0, oj, hoj, hon⟩ := ready_lt hj
    by_cases hji : j = i
    · subst hji
      rw [hi] at hoj; cases hoj
      have hfit := s.fits hj hs
      have hw : Region.wanted o (yielded ops a.tmps) = true := hg.wtd hfit
      unfold wpOp
      simp only [hi]
      rw [hw, if_pos rfl]
      refine .inl (hx a w _ _ hfit ho fun x Hn w' hxd ho' hqm => ?_)
      have hxm : o.dst = x.map (·.1) := by
        cases x with
        | none => exact hxd
        | some e => exact hxd.1
      have hst := St.step (x := x) hds (s.cons (e := x) hn) hj hi (by simp [getP]) (fun q hq d' g' v' hq' => by
        rcases getP_cons' hq' with ⟨rfl, h⟩ | h
        · exact ⟨o, hi, by rw [hxm, ← h]; rfl⟩
        · exact hD q _ h) hxd
      have hall : ∀ q ∈ p.map (·.1), listed.getD q false = true := by
        intro q hq
        obtain ⟨e, he', rfl⟩ := List.mem_map.1 hq
        simp only [barB, hi] at hbar
        have hc := List.all_eq_true.1 hbar e he'
        refine reachL_ok (ops := ops) (Q := fun j => listed.getD j false = true) (fun i' h j' hj' => s.down i' h j' hj') j (onsOf o) (fun j' hj' => ?_) e.1 (List.contains_iff_mem.1 hc)
        exact hon j' (by simp only [onB, hi]; exact List.contains_iff_mem.2 hj')
      refine hqm (fun q y hq => ?_) (fun q y hq' => ?_) fuel _ _ w' hst (by have := unl_set hlt hni; omega) (fun q hq => ?_) (by rw [List.append_nil]; exact ho')
      · rcases getP_cons' hq with ⟨rfl, _⟩ | hq
        · exact .inl (by simp)
        · exact .inl (by simp only [List.mem_cons]; exact .inr (List.mem_map.2 ⟨_, getP_mem hq, rfl⟩))
      · rcases getP_cons' hq' with ⟨rfl, rfl⟩ | h
        · exact ⟨o, hi, hxm⟩
        · exact hD q y h
      · rw [getD_set (by rw [s.lsz]; exact hlt)]
        rcases List.mem_cons.1 hq with rfl | hq
        · exact .inl rfl
        · exact .inr (hall q hq)
    · cases hp : getP p j with
      | none =>
        exfalso
        have hjlt := (Array.getElem?_eq_some_iff.1 hoj).1
        have := List.all_eq_true.1 hrest j (by simpa using hjlt)
        rw [hp, Option.isSome_none, Bool.or_false] at this
        rcases Bool.or_eq_true_iff.1 this with h | h
        · exact hji (beq_iff_eq.1 h)
        · rw [rest_ok s.down hon h] at hnl; cases hnl
      | some x =>
        rcases hQ j x hp with h | h
        · have := he j h
          rw [not_listed h0] at this; cases this
        · refine run_quiet hds hD s hj h ho fun a' w' s' ho' => ?_
          have hjlt := (Array.getElem?_eq_some_iff.1 hoj).1
          refine ih _ a' w' s' (by have := unl_set hjlt h0; omega) (fun q hq => ?_) ho'
          rw [getD_set (by rw [s.lsz]; exact hjlt)]
          exact .inr (he q hq)

theorem qb_e {i d : Nat} (l : List Src) (hac : acB ops = true) (hds : dstB ops = true) (hi : ops[i]? = some o) (hn : getP p i = Option.none) (hd : o.dst = some d) (hN : Nat.blt d N = true) (hs : srcB ops i l = true) (hrest : restB ops p i = true) (hbar : barB ops p i = true) (hg : GdW ops (srcEnv p E0 l) o)
    (hx : OpX P N M ops o (srcEnv p E0 l) (He ++ Hq) (fun e h => ∃ v, look e d = some (true, v) ∧ QM P F N M K ops E0 [] ((i, some (d, true, v)) :: p) (i :: p.map (·.1)) h)) : QM P F N M K ops E0 Hq p eff He :=
  qm_bar (l := l) hac hds hi hn hs hrest hbar hg fun a w Kc Q hf ho hk => by
    have hw : Region.wanted o (yielded ops a.tmps) = true := hg.wtd hf
    have h := hx a w Kc Q hf ho (fun env' H' u w' hR hf' ho' => by
      obtain ⟨v, hlook, hqm⟩ := hR
      have hdN : d < N := by simpa using hN
      have hu' : u = v := by
        have := hf'.ok d true v hlook
        rw [hd] at this
        have hd' : d < a.tmps.size := by rw [hf.sz]; exact hdN
        simpa [Act.put, hd'] using this
      subst hu'
      rw [hd]
      exact hk (some (d, true, u)) H' w' ⟨hd, hdN⟩ ho' hqm)
    rw [hw, if_pos rfl] at h
    exact h
theorem qb_s {i : Nat} (l : List Src) (hac : acB ops = true) (hds : dstB ops = true) (hi : ops[i]? = some o) (hn : getP p i = Option.none) (hd : o.dst = Option.none) (hs : srcB ops i l = true) (hrest : restB ops p i = true) (hbar : barB ops p i = true) (hg : GdW ops (srcEnv p E0 l) o)
    (hx : OpX P N M ops o (srcEnv p E0 l) (He ++ Hq) (fun _ h => QM P F N M K ops E0 [] ((i, Option.none) :: p) (i :: p.map (·.1)) h)) : QM P F N M K ops E0 Hq p eff He :=
  qm_bar (l := l) hac hds hi hn hs hrest hbar hg fun a w Kc Q hf ho hk => by
    have hw : Region.wanted o (yielded ops a.tmps) = true := hg.wtd hf
    have h := hx a w Kc Q hf ho (fun env' H' u w' hR hf' ho' => by
      rw [hd]
      exact hk Option.none H' w' hd ho' hR)
    rw [hw, if_pos rfl] at h
    exact h
section drawn
variable {d i : Nat} {A A' C H2 : List HP} {xs : List Operand} {vs : List Value} {at' : Array TypeId}
theorem qb_store {b j n : Nat} {T T' : TypeId} {cs cs' vs : List Value} {x y : Operand} {Re : List HP} (hsz : SizeIs P T n) (l : List Src) (hac : acB ops = true) (hds : dstB ops = true) (hi : ops[i]? = some o) (hn : getP p i = Option.none) (hd : o.dst = Option.none) (hs : srcB ops i l = true) (hrest : restB ops p i = true) (hbar : barB ops p i = true) (hg : GdW ops (srcEnv p E0 l) o)
    [c : Cat He Hq H2] (hop : o.op = .store T x y) (hx : evo (srcEnv p E0 l) x = some (true, .pointer (some ⟨b, j, Option.none⟩))) [s : SelB H2 b cs T' Re] (hy : evo (srcEnv p E0 l) y = some (true, u)) (hu : u.cells = vs.toArray) (hvn : vs.length = n) (h1 : vs.all (·.oneCell') = true) (hin : Ins cs j vs cs')
    (h : QM P F N M K ops E0 [] ((i, Option.none) :: p) (i :: p.map (·.1)) (blk b cs' T' :: Re)) : QM P F N M K ops E0 Hq p eff He :=
  qb_s l hac hds hi hn hd hs hrest hbar hg (hg.opx (x_store (o := (ung o)) hsz (by rw [c.eq]; exact s.ent) hop rfl hd hx hy hu hvn h1 hin h))
theorem qb_callc (l : List Src) (hac : acB ops = true) (hds : dstB ops = true) (hi : ops[i]? = some o) (hn : getP p i = Option.none) (hd : o.dst = some d) (hN : Nat.blt d N = true) (hs : srcB ops i l = true) (hrest : restB ops p i = true) (hbar : barB ops p i = true) (hg : GdW ops (srcEnv p E0 l) o)
    [c1 : Cat He Hq H2] (cf : cfB P f = true) (hop : o.op = .call { callee := .value (.func f), args := xs.toArray, argTypes := at' }) (ha : Args (srcEnv p E0 l) xs vs) [s : SelL H2 A R] [c : Cat A' R C] (hc : FnC P M f vs ret A A')
    (h : QM P F N M K ops E0 [] ((i, some (d, true, ret)) :: p) (i :: p.map (·.1)) C) : QM P F N M K ops E0 Hq p eff He :=
  qb_e l hac hds hi hn hd hN hs hrest hbar hg (hg.opx (x_call (o := (ung o)) cf hop rfl hd hN ha (FnR.pre (by rw [c1.eq]; exact s.ent) (hc R)) (by rintro _ _ ⟨rfl, rfl⟩; rw [c.eq]; exact ⟨_, by simp [look], h⟩)))
theorem qb_calle {α : Type} {rt : α → Value} {A' : α → List HP} (l : List Src) (hac : acB ops = true) (hds : dstB ops = true) (hi : ops[i]? = some o) (hn : getP p i = Option.none) (hd : o.dst = some d) (hN : Nat.blt d N = true) (hs : srcB ops i l = true) (hrest : restB ops p i = true) (hbar : barB ops p i = true) (hg : GdW ops (srcEnv p E0 l) o)
    [c1 : Cat He Hq H2] (cf : cfB P f = true) (hop : o.op = .call { callee := .value (.func f), args := xs.toArray, argTypes := at' }) (ha : Args (srcEnv p E0 l) xs vs) [s : SelL H2 A R] (hc : FnE P M f vs A rt A')
    (h : ∀ x, QM P F N M K ops E0 [] ((i, some (d, true, rt x)) :: p) (i :: p.map (·.1)) (A' x ++ R)) : QM P F N M K ops E0 Hq p eff He :=
  qb_e l hac hds hi hn hd hN hs hrest hbar hg (hg.opx (x_call (o := (ung o)) cf hop rfl hd hN ha (FnR.pre (by rw [c1.eq]; exact s.ent) (hc R)) (by rintro _ _ ⟨x, rfl, rfl⟩; exact ⟨_, by simp [look], h x⟩)))
/-- An effect's call within He. -/
theorem qm_callc (l : List Src) (hac : acB ops = true) (hds : dstB ops = true) (hi : ops[i]? = some o) (hn : getP p i = Option.none) (hd : o.dst = some d) (hN : Nat.blt d N = true) (hs : srcB ops i l = true) (hrest : restB ops p i = true) (hg : GdW ops (srcEnv p E0 l) o)
    (cf : cfB P f = true) (hop : o.op = .call { callee := .value (.func f), args := xs.toArray, argTypes := at' }) (ha : Args (srcEnv p E0 l) xs vs) [s : SelL He A R] [c : Cat A' R C] (hc : FnC P M f vs ret A A')
    (h : QM P F N M K ops E0 Hq ((i, some (d, true, ret)) :: p) (i :: eff) C) : QM P F N M K ops E0 Hq p eff He :=
  qm_e l hac hds hi hn hd hN hs hrest hg (hg.opx (x_call (o := (ung o)) cf hop rfl hd hN ha (FnR.pre (Ent.app (A' := A ++ R) s.ent) (by rw [List.append_assoc]; exact hc (R ++ Hq))) (by rintro _ _ ⟨rfl, rfl⟩; exact ⟨_, C, by simp [look], by rw [← c.eq, List.append_assoc], h⟩)))
theorem qm_calle {α : Type} {rt : α → Value} {A' : α → List HP} (l : List Src) (hac : acB ops = true) (hds : dstB ops = true) (hi : ops[i]? = some o) (hn : getP p i = Option.none) (hd : o.dst = some d) (hN : Nat.blt d N = true) (hs : srcB ops i l = true) (hrest : restB ops p i = true) (hg : GdW ops (srcEnv p E0 l) o)
    (cf : cfB P f = true) (hop : o.op = .call { callee := .value (.func f), args := xs.toArray, argTypes := at' }) (ha : Args (srcEnv p E0 l) xs vs) [s : SelL He A R] (hc : FnE P M f vs A rt A')
    (h : ∀ x, QM P F N M K ops E0 Hq ((i, some (d, true, rt x)) :: p) (i :: eff) (A' x ++ R)) : QM P F N M K ops E0 Hq p eff He :=
  qm_e l hac hds hi hn hd hN hs hrest hg (hg.opx (x_call (o := (ung o)) cf hop rfl hd hN ha (FnR.pre (Ent.app (A' := A ++ R) s.ent) (by rw [List.append_assoc]; exact hc (R ++ Hq))) (by rintro _ _ ⟨x, rfl, rfl⟩; exact ⟨_, A' x ++ R, by simp [look], by rw [List.append_assoc], h x⟩)))
/-- A call that reads what lies anywhere, and makes new parts. -/
theorem qm_calln {α : Type} {rt : α → Value} {New : α → List HP} (l : List Src) (hac : acB ops = true) (hds : dstB ops = true) (hi : ops[i]? = some o) (hn : getP p i = Option.none) (hd : o.dst = some d) (hN : Nat.blt d N = true) (hs : srcB ops i l = true) (hrest : restB ops p i = true) (hg : GdW ops (srcEnv p E0 l) o)
    (cf : cfB P f = true) (hop : o.op = .call { callee := .value (.func f), args := xs.toArray, argTypes := at' }) (ha : Args (srcEnv p E0 l) xs vs) [s : SelL (He ++ Hq) A R] (hc : FnN P M f vs A rt New)
    (h : ∀ x, QM P F N M K ops E0 Hq ((i, some (d, true, rt x)) :: p) (i :: eff) (New x ++ He)) : QM P F N M K ops E0 Hq p eff He :=
  qm_e l hac hds hi hn hd hN hs hrest hg (hg.opx (x_call (o := (ung o)) (Post := fun v H' => ∃ x, v = rt x ∧ H' = New x ++ (He ++ Hq)) cf hop rfl hd hN ha (fun w ho => (hc R w (ho.ent s.ent)).mono fun _ _ ⟨v, H', e, ⟨x, h1, h2⟩, ho'⟩ => ⟨v, _, e, ⟨x, h1, rfl⟩, by
    subst h2
    rw [List.append_assoc] at ho'
    exact ho'.ent (entPre s.back)⟩) (by rintro _ _ ⟨x, rfl, rfl⟩; exact ⟨_, New x ++ He, by simp [look], by rw [List.append_assoc], h x⟩)))
/-- A part that is new is kept from now on. -/
theorem qm_keep {X : HP} (h : QM P F N M K ops E0 (X :: Hq) p eff He) : QM P F N M K ops E0 Hq p eff (X :: He) := fun hQ hD fuel listed a w st hu he ho =>
  h (fun i x hi => (hQ i x hi).imp id fun ⟨o, d, g, v, l, h1, h2, h3, h4, h5, h6, h7⟩ => ⟨o, d, g, v, l, h1, h2, h3, h4, h5, h6, fun He' => by
    have := h7 (He' ++ [X])
    rw [List.append_assoc] at this
    exact this⟩) hD fuel listed a w st hu he (ho.ent (by
      have h1 : Ent ((X :: He) ++ Hq) (X :: (He ++ Hq)) := Ent.rfl
      exact Ent.tr h1 (Ent.unA (Ent.rfl (H := X :: Hq)))))
theorem qm_rd (v : Value) {sz : Nat} {rows : List (List Value)} [s : SelS He v E sz rows R] (h : Rd M [sl v E sz rows] v sz rows → QM P F N M K ops E0 Hq p eff He) : QM P F N M K ops E0 Hq p eff He := fun hQ hD fuel listed a w st hu he ho =>
  h (sl_rd (ho.ent (Ent.tr (Ent.app (A' := sl v E sz rows :: R) s.ent) (Ent.rfl)))) hQ hD fuel listed a w st hu he ho
theorem qm_cat [c : Cat A A' C] (h : QM P F N M K ops E0 Hq p eff C) : QM P F N M K ops E0 Hq p eff (A ++ A') := by rw [c.eq]; exact h
end drawn

end Go.Proofs.YtmakdilmibjpbabGreatDoor
