/- The engine's laws on memory: loads, stores, new variables, slices, append, calls, returns, regions whose order is drawn. -/
import Derived.Test.YtmakdilmibjpbabEng
namespace Go.Proofs.Ytmakdilmibjpbab
open Go Go.RowKit

variable {P : Program} {F : Exit → Act → World → Prop} {N : Nat} {M : Amb} {env : Env} {H H' R : List HP} {a : Act} {w : World} {ops : Array Oper} {o : Oper} {rest : List Oper} {K : List KI}
variable {g gx gy gz : Bool} {x y z : Operand} {v v' : Value} {Rr : Env → List HP → Prop}

/-- An operation that gives its value off the frame and what is owned, and leaves the world. -/
def RV (P : Program) (M : Amb) (ops : Array Oper) (o : Oper) (env : Env) (H : List HP) (g : Bool) (v : Value) : Prop :=
  ∀ (N : Nat) (a : Act) (w : World), Fits N env a → Own M H w → Region.wanted o (yielded ops a.tmps) = g ∧ (g = true → (execOp a.eval o).run P w = .ok (.value v) w)

theorem PV.rv (h : PV P ops o env g v) : RV P M ops o env H g v := fun N a w hf _ => ⟨(h N a hf).1, fun e => (h N a hf).2 e w⟩

theorem x_r {d : Nat} (hp : RV P M ops o env H g v) (hd : o.dst = some d) (hN : Nat.blt d N = true) (h : Rr ((d, g, v) :: env) H) : OpX P N M ops o env H Rr := fun a w Kc Q hf ho hK => by
  obtain ⟨hw, hr⟩ := hp N a w hf ho
  rw [hw]
  cases g with
  | true =>
    simp only [if_true, Oper.wp, hr _root_.rfl, Oper.upon_value]
    exact hK _ _ _ _ h (by rw [hd]; exact hf.put hN true v) ho
  | false =>
    simp only [Bool.false_eq_true, if_false]
    exact hK _ _ _ _ h (by rw [hd]; exact hf.put hN false v) ho

theorem rv_eq (h : RV P M ops o env H g v) (e : g = true → v = v') : RV P M ops o env H g v' := fun N a w hf ho =>
  ⟨(h N a w hf ho).1, fun hg => e hg ▸ (h N a w hf ho).2 hg⟩

/-! ### Loads -/

/-- What H says of one cell. -/
def CellAt (M : Amb) (H : List HP) (b i : Nat) (v : Value) : Prop := ∀ w, Own M H w → w.cell? ⟨b, i, Option.none⟩ = some v
def CellsAt (M : Amb) (H : List HP) (b i : Nat) (vs : List Value) : Prop := ∀ w, Own M H w → ∀ j u, vs[j]? = some u → w.cell? ⟨b, i + j, Option.none⟩ = some u

/-- The first n of a list, written out. -/
inductive Tk : Nat → List Value → List Value → Prop
  | z {l : List Value} : Tk 0 l []
  | s {n : Nat} {c : Value} {l vs : List Value} (h : Tk n l vs) : Tk (n + 1) (c :: l) (c :: vs)
theorem Tk.length {n : Nat} {l vs : List Value} (h : Tk n l vs) : vs.length = n := by induction h <;> simp_all
theorem Tk.get {n : Nat} {l vs : List Value} (h : Tk n l vs) : ∀ (j : Nat) (u : Value), vs[j]? = some u → l[j]? = some u := by
  induction h with
  | z => intro j u h; simp at h
  | s h ih => intro j u hj; cases j with
    | zero => simpa using hj
    | succ j => simpa using ih j u (by simpa using hj)

theorem CellAt.blk {b i : Nat} {cs : List Value} {T : TypeId} (he : Ent H (blk b cs T :: R)) (hv : cs[i]? = some v) : CellAt M H b i v := fun _ ho => ((ho.ent he).cell i).trans hv
theorem CellsAt.blk {b i n : Nat} {cs vs : List Value} {T : TypeId} (he : Ent H (blk b cs T :: R)) (hv : Tk n (cs.drop i) vs) : CellsAt M H b i vs := fun _ ho j u hu => by
  rw [(ho.ent he).cell (i + j)]
  have := hv.get j u hu
  rwa [List.getElem?_drop] at this
theorem CellAt.ent {b i : Nat} (h : CellAt M H' b i v) (he : Ent H H') : CellAt M H b i v := fun w ho => h w (ho.ent he)
theorem CellsAt.ent {b i : Nat} {vs : List Value} (h : CellsAt M H' b i vs) (he : Ent H H') : CellsAt M H b i vs := fun w ho => h w (ho.ent he)
theorem CellsAt.one {vs : List Value} {b i j : Nat} (h : CellsAt M H b i vs) (hj : vs[j]? = some v) : CellAt M H b (i + j) v := fun w ho => h w ho j v hj
theorem CellsAt.sub {vs us : List Value} {b i j n : Nat} (h : CellsAt M H b i vs) (hj : Tk n (vs.drop j) us) : CellsAt M H b (i + j) us := fun w ho k u hu => by
  have := hj.get k u hu
  rw [List.getElem?_drop] at this
  rw [Nat.add_assoc]
  exact h w ho _ u this

theorem run_isAgg_no {t : TypeId} (h : tcB P t = true) (w : World) : (isAgg t).run P w = .ok false w ∧ ∃ i, P.info? t = some i ∧ i.size = 1 := by
  unfold tcB at h
  cases hu : P.underlying t with
  | none => simp [hu] at h
  | some d =>
    have hi : ∃ i, P.info? t = some i ∧ i.size = 1 := by
      cases hi : P.info? t with
      | none => cases d <;> simp [hu, hi] at h
      | some i => exact ⟨i, _root_.rfl, by cases d <;> simp [hu, hi] at h <;> exact h⟩
    refine ⟨?_, hi⟩
    cases d <;> simp [isAgg, run_und hu] <;> simp [hu] at h
theorem run_isAgg_yes {t : TypeId} {n : Nat} (h : taB P t n = true) (w : World) : (isAgg t).run P w = .ok true w ∧ ∃ i, P.info? t = some i ∧ i.size = n := by
  unfold taB at h
  cases hu : P.underlying t with
  | none => simp [hu] at h
  | some d =>
    have hi : ∃ i, P.info? t = some i ∧ i.size = n := by
      cases hi : P.info? t with
      | none => cases d <;> simp [hu, hi] at h
      | some i => exact ⟨i, _root_.rfl, by cases d <;> simp [hu, hi] at h <;> exact h⟩
    refine ⟨?_, hi⟩
    cases d <;> simp [isAgg, run_und hu] <;> simp [hu] at h

theorem run_loadVar_c {t : TypeId} {b i : Nat} (h : tcB P t = true) (hc : w.cell? ⟨b, i, Option.none⟩ = some v) : (loadVar t ⟨b, i, Option.none⟩).run P w = .ok v w := by
  simp [loadVar, (run_isAgg_no h w).1, hc]
theorem run_loadVar_a {t : TypeId} {b i : Nat} {vs : List Value} (h : taB P t vs.length = true) (hc : ∀ j u, vs[j]? = some u → w.cell? ⟨b, i + j, Option.none⟩ = some u) :
    (loadVar t ⟨b, i, Option.none⟩).run P w = .ok (.agg vs.toArray) w := by
  obtain ⟨h1, inf, h2, h3⟩ := run_isAgg_yes h w
  have h4 := run_loadCells_list (P := P) w ⟨b, i, Option.none⟩ vs (fun j u hu => by rw [addr_add]; exact hc j u hu)
  simp [loadVar, h1, sizeOf, run_info h2, h3, h4]

theorem rv_ldc {t : TypeId} {b i : Nat} (tc : tcB P t = true) (hc : CellAt M H b i v) (hg : Gd ops env o g) (hop : o.op = .load t x) (hx : evo env x = some (gx, .pointer (some ⟨b, i, Option.none⟩))) (hi : g = true → gx = true) :
    RV P M ops o env H g v := fun _ _ w hf ho => ⟨hg.wanted hf, fun e => by
      simp [execOp, hop, hf.ev hx (hi e), Instr.loadAt, Instr.sureAddr, run_loadVar_c tc (hc w ho)]⟩
theorem rv_lda {t : TypeId} {b i n : Nat} {vs : List Value} (ta : taB P t n = true) (hc : CellsAt M H b i vs) (hn : vs.length = n) (hg : Gd ops env o g) (hop : o.op = .load t x) (hx : evo env x = some (gx, .pointer (some ⟨b, i, Option.none⟩))) (hi : g = true → gx = true) :
    RV P M ops o env H g (.agg vs.toArray) := fun _ _ w hf ho => ⟨hg.wanted hf, fun e => by
      subst hn
      simp [execOp, hop, hf.ev hx (hi e), Instr.loadAt, Instr.sureAddr, run_loadVar_a ta (hc w ho)]⟩

/-! ### New variables, stores -/

def ZR (P : Program) (T : TypeId) (zs : List Value) : Prop := (P.info? T).bind (fun i => i.zero.map (·.cells.toList)) = some zs

theorem x_box {T : TypeId} {d : Nat} {cs : List Value} (hop : o.op = .box T x) (hgd : o.guard = Option.none) (hd : o.dst = some d) (hN : Nat.blt d N = true) (hx : evo env x = some (true, v)) (hc : v.cells = cs.toArray)
    (h : ∀ b, Rr ((d, true, .pointer (some ⟨b, 0, Option.none⟩)) :: env) (blk b cs T :: H)) : OpX P N M ops o env H Rr := fun a w Kc Q hf ho hK => by
  have hw : Region.wanted o (yielded ops a.tmps) = true := by simp [Region.wanted, hgd]
  rw [hw, if_pos _root_.rfl]
  have hr : (execOp a.eval o).run P w = .ok (.value (.pointer (some ⟨w.heap.size, 0, Option.none⟩))) (w.alloc (.cells cs.toArray T)) := by
    simp [execOp, hop, hf.ev hx _root_.rfl, Instr.box, newVar, newRow, hc]
  simp only [Oper.wp, hr, Oper.upon_value]
  exact hK _ _ _ _ (h w.heap.size) (by rw [hd]; exact hf.put hN true _) (ho.alloc cs T)

theorem x_alloc {T : TypeId} {d : Nat} {zs : List Value} (zr : ZR P T zs) (hop : o.op = .alloc T) (hgd : o.guard = Option.none) (hd : o.dst = some d) (hN : Nat.blt d N = true)
    (h : ∀ b, Rr ((d, true, .pointer (some ⟨b, 0, Option.none⟩)) :: env) (blk b zs T :: H)) : OpX P N M ops o env H Rr := fun a w Kc Q hf ho hK => by
  have hw : Region.wanted o (yielded ops a.tmps) = true := by simp [Region.wanted, hgd]
  rw [hw, if_pos _root_.rfl]
  have hr : (execOp a.eval o).run P w = .ok (.value (.pointer (some ⟨w.heap.size, 0, Option.none⟩))) (w.alloc (.cells zs.toArray T)) := by
    unfold ZR at zr
    cases hi : P.info? T with
    | none => simp [hi] at zr
    | some i =>
      cases hz : i.zero with
      | none => simp [hi, hz] at zr
      | some zv =>
        simp [hi, hz] at zr
        subst zr
        simp [execOp, hop, Instr.alloc, zeroValue, run_info hi, hz, newVar, newRow]
  simp only [Oper.wp, hr, Oper.upon_value]
  exact hK _ _ _ _ (h w.heap.size) (by rw [hd]; exact hf.put hN true _) (ho.alloc zs T)

/-- 'vs' put into 'cs' at a place, written out. -/
inductive Ins : List Value → Nat → List Value → List Value → Prop
  | z {l : List Value} : Ins l 0 [] l
  | p {c u : Value} {l vs l' : List Value} (h : Ins l 0 vs l') : Ins (c :: l) 0 (u :: vs) (u :: l')
  | s {c : Value} {l vs l' : List Value} {n : Nat} (h : Ins l n vs l') : Ins (c :: l) (n + 1) vs (c :: l')
theorem Ins.eq {cs vs cs' : List Value} {i : Nat} (h : Ins cs i vs cs') : i + vs.length ≤ cs.length ∧ cs' = cs.take i ++ vs ++ cs.drop (i + vs.length) := by
  induction h with
  | z => simp
  | p h ih =>
    obtain ⟨h1, h2⟩ := ih
    simp at h1 h2 ⊢
    exact ⟨by omega, h2⟩
  | s h ih =>
    rename_i c l vs l' n
    obtain ⟨h1, h2⟩ := ih
    refine ⟨by simp; omega, ?_⟩
    rw [show n + 1 + vs.length = (n + vs.length) + 1 from by omega]
    simp [h2]

theorem run_storeVar {T T' : TypeId} {b i n : Nat} {cs : List Value} {u : Value} (hs : ∃ inf, P.info? T = some inf ∧ inf.size = n) (hb : w.heap[b]? = some (.cells cs.toArray T' (0, 0)))
    (hn : u.cells.size = n) (hfit : i + n ≤ cs.length) (h1 : ∀ c ∈ u.cells.toList, c.oneCell' = true) :
    (storeVar T ⟨b, i, Option.none⟩ u).run P w = .ok () (w.setRow b (cs.take i ++ u.cells.toList ++ cs.drop (i + n)).toArray) := by
  obtain ⟨inf, h2, h3⟩ := hs
  have hst := run_storeCells_at P b i T' u.cells.toList 0 cs.toArray w hb (by simp [hn]; omega) h1
  simp only [Nat.add_zero] at hst
  simp [storeVar, sizeOf, run_info h2, h3, hn, hst]

theorem setRow_own {b : Nat} {cs cs' : List Value} {T : TypeId} (o : Own M (blk b cs T :: R) w) : Own M (blk b cs' T :: R) (w.setRow b cs'.toArray) :=
  o.put (setRow_heap w b _ _ T _ o.blk.2) (fun k _ hne => setRow_other w b k _ hne) (by simp) _root_.rfl _root_.rfl _root_.rfl

def SizeIs (P : Program) (T : TypeId) (n : Nat) : Prop := ∃ inf, P.info? T = some inf ∧ inf.size = n
theorem SizeIs.ofC {T : TypeId} (h : tcB P T = true) : SizeIs P T 1 := (run_isAgg_no h default).2
theorem SizeIs.ofA {T : TypeId} {n : Nat} (h : taB P T n = true) : SizeIs P T n := (run_isAgg_yes h default).2

theorem x_store {T T' : TypeId} {b i n : Nat} {cs cs' vs : List Value} {u : Value} (hs : SizeIs P T n) (he : Ent H (blk b cs T' :: R)) (hop : o.op = .store T x y) (hgd : o.guard = Option.none) (hd : o.dst = Option.none)
    (hx : evo env x = some (true, .pointer (some ⟨b, i, Option.none⟩))) (hy : evo env y = some (true, u)) (hu : u.cells = vs.toArray) (hn : vs.length = n) (h1 : vs.all (·.oneCell') = true) (hi : Ins cs i vs cs')
    (h : Rr env (blk b cs' T' :: R)) : OpX P N M ops o env H Rr := fun a w Kc Q hf ho hK => by
  have hw : Region.wanted o (yielded ops a.tmps) = true := by simp [Region.wanted, hgd]
  rw [hw, if_pos _root_.rfl]
  have ho' := ho.ent he
  obtain ⟨hi1, hi2⟩ := hi.eq
  have hrun := run_storeVar (P := P) (T := T) (n := n) hs ho'.blk.2 (u := u) (i := i) (by simp [hu, hn]) (by omega) (by simpa [hu] using h1)
  have hr : (execOp a.eval o).run P w = .ok .skip (w.setRow b cs'.toArray) := by
    rw [hi2, hn]
    simp [execOp, hop, hf.ev hx _root_.rfl, hf.ev hy _root_.rfl, Instr.storeAt, Instr.sureAddr, hrun, hu]
  simp only [Oper.wp, hr, Oper.upon_skip]
  exact hK _ _ _ _ h (by simpa [Act.put, hd] using hf) (setRow_own ho')

/-! ### Slices that are read -/

/-- 'v' reads as the rows. -/
structure Rd (M : Amb) (H : List HP) (v : Value) (sz : Nat) (rows : List (List Value)) : Prop where
  ok : RowsOk sz rows
  is : ∃ ao cap, v = .slice ao rows.length cap ∧ rows.length ≤ cap ∧ cap ≤ maxLen ∧ (ao = Option.none → rows.length = 0 ∧ cap = 0) ∧ (∀ A, ao = some A → 0 < rows.length → A.spot = Option.none ∧ CellsAt M H A.block A.off rows.flatten)

theorem Rd.ent {sz : Nat} {rows : List (List Value)} (h : Rd M H' v sz rows) (he : Ent H H') : Rd M H v sz rows :=
  ⟨h.ok, let ⟨ao, cap, e, h1, h2, h3, h4⟩ := h.is; ⟨ao, cap, e, h1, h2, h3, fun A hA hp => ⟨(h4 A hA hp).1, (h4 A hA hp).2.ent he⟩⟩⟩
theorem Rd.t {X : HP} {sz : Nat} {rows : List (List Value)} (h : Rd M H v sz rows) : Rd M (X :: H) v sz rows := h.ent Ent.drop

theorem RowsOk.tail {sz : Nat} {r : List Value} {rows : List (List Value)} (h : RowsOk sz (r :: rows)) : RowsOk sz rows := fun x hx => h x (List.mem_cons_of_mem _ hx)
theorem flat_len {sz : Nat} : ∀ {rows : List (List Value)}, RowsOk sz rows → rows.flatten.length = rows.length * sz
  | [], _ => by simp
  | r :: rows, h => by
    simp only [List.flatten_cons, List.length_append, List.length_cons, (h r (by simp)).1, flat_len h.tail, Nat.succ_mul]
    omega

theorem flat_get {sz : Nat} : ∀ {rows : List (List Value)}, RowsOk sz rows → ∀ i r j u, rows[i]? = some r → r[j]? = some u → rows.flatten[i * sz + j]? = some u
  | [], _, i, r, j, u, h, _ => by simp at h
  | r0 :: rows, h, i, r, j, u, hi, hj => by
    have hl := (h r0 (by simp)).1
    cases i with
    | zero =>
      simp at hi; subst hi
      have : j < r0.length := (List.getElem?_eq_some_iff.1 hj).1
      simp only [List.flatten_cons, Nat.zero_mul, Nat.zero_add]
      rw [List.getElem?_append_left this]; exact hj
    | succ i =>
      simp only [List.flatten_cons]
      rw [List.getElem?_append_right (by rw [hl, Nat.succ_mul]; omega), hl]
      have := flat_get h.tail i r j u (by simpa using hi) hj
      rw [show (i + 1) * sz + j - sz = i * sz + j from by rw [Nat.succ_mul]; omega]
      exact this

/-- A row of a slice, at its address. -/
theorem Rd.row {sz i : Nat} {rows : List (List Value)} {r : List Value} (h : Rd M H v sz rows) (hi : rows[i]? = some r) :
    ∃ b off cap, v = .slice (some ⟨b, off, Option.none⟩) rows.length cap ∧ CellsAt M H b (off + i * sz) r := by
  obtain ⟨ao, cap, e, h1, h2, h3, h4⟩ := h.is
  have hlt : i < rows.length := (List.getElem?_eq_some_iff.1 hi).1
  cases ao with
  | none => have := (h3 _root_.rfl).1; omega
  | some A =>
    obtain ⟨hs, hc⟩ := h4 A _root_.rfl (by omega)
    obtain ⟨b, off, spot⟩ := A
    simp at hs; subst hs
    refine ⟨b, off, cap, e, fun w ho j u hu => ?_⟩
    rw [Nat.add_assoc]
    exact hc w ho _ u (flat_get h.ok i r j u hi hu)

/-- An element's address. -/
theorem x_idx {T E : TypeId} {d sz i : Nat} {n : Int} {rows : List (List Value)} {r : List Value} (hT : P.underlying T = some (.slice E)) (hE : SizeIs P E sz) (hr : Rd M H v sz rows) (hop : o.op = .indexAddr T x y) (hgd : o.guard = Option.none)
    (hd : o.dst = some d) (hN : Nat.blt d N = true) (hx : evo env x = some (true, v)) (hy : evo env y = some (true, .int .i64 n)) (hn : n = (i : Int)) (hi : rows[i]? = some r)
    (h : ∀ b off, CellsAt M H b off r → Rr ((d, true, .pointer (some ⟨b, off, Option.none⟩)) :: env) H) : OpX P N M ops o env H Rr := fun a w Kc Q hf ho hK => by
  have hw : Region.wanted o (yielded ops a.tmps) = true := by simp [Region.wanted, hgd]
  rw [hw, if_pos _root_.rfl]
  obtain ⟨b, off, cap, rfl, hc⟩ := hr.row hi
  have hlt : i < rows.length := (List.getElem?_eq_some_iff.1 hi).1
  obtain ⟨inf, h2, h3⟩ := hE
  have hr : (execOp a.eval o).run P w = .ok (.value (.pointer (some ⟨b, off + i * sz, Option.none⟩))) w := by
    subst hn
    simp [execOp, hop, hf.ev hx _root_.rfl, hf.ev hy _root_.rfl, Instr.indexAt, asIntOf, run_und hT, sizeOf, run_info h2, h3, hlt, addr_add]
  simp only [Oper.wp, hr, Oper.upon_value]
  exact hK _ _ _ _ (h _ _ hc) (by rw [hd]; exact hf.put hN true _) ho

end Go.Proofs.Ytmakdilmibjpbab
