/- Elements of slices that are read, slice literals, reslicing. -/
import Derived.Test.YtmakdilmibjpbabQuiet
namespace Go.Proofs.Ytmakdilmibjpbab
open Go Go.RowKit

variable {P : Program} {F : Exit → Act → World → Prop} {N : Nat} {M : Amb} {env : Env} {H H' R : List HP} {a : Act} {w : World} {ops : Array Oper} {o : Oper} {rest : List Oper} {K : List KI}
variable {g gx gy gz : Bool} {x y z : Operand} {v v' u : Value} {Rr : Env → List HP → Prop} {f : FuncId} {fn : Func} {Post : Value → List HP → Prop} {T T2 E : TypeId} {k : IntKind} {m n : Int}

/-- An address behind a slice's head. -/
def ptrAt (v : Value) (k : Nat) : Value := match v with | .slice (some A) _ _ => .pointer (some ⟨A.block, A.off + k, Option.none⟩) | _ => .pointer Option.none

theorem Rd.nn {sz i : Nat} {rows : List (List Value)} (h : Rd M H v sz rows) (hi : i < rows.length) : ∃ b off c, v = .slice (some ⟨b, off, Option.none⟩) rows.length c ∧ CellsAt M H b off rows.flatten := by
  obtain ⟨ao, cap, e, h1, h2, h3, h4⟩ := h.is
  cases ao with
  | none => have := (h3 rfl).1; omega
  | some A =>
    obtain ⟨hs, hc⟩ := h4 A rfl (by omega)
    obtain ⟨b, off, spot⟩ := A
    simp at hs; subst hs
    exact ⟨b, off, cap, e, hc⟩
theorem Rd.lt {sz i : Nat} {rows : List (List Value)} {r : List Value} (_ : Rd M H v sz rows) (hi : rows[i]? = some r) : i < rows.length := (List.getElem?_eq_some_iff.1 hi).1
/-- Its shape. -/
theorem Rd.shape {sz : Nat} {rows : List (List Value)} (h : Rd M H v sz rows) : ∃ ao c, v = .slice ao rows.length c := let ⟨ao, cap, e, _⟩ := h.is; ⟨ao, cap, e⟩
theorem Rd.skip {sz : Nat} {A : List HP} {rows : List (List Value)} (h : Rd M H v sz rows) : Rd M (A ++ H) v sz rows := h.ent Ent.skip

theorem pv_idx {sz i : Nat} {rows : List (List Value)} {r : List Value} (hT : P.underlying T = some (.slice E)) (hE : SizeIs P E sz) (hr : Rd M H v sz rows) (hn : g = true → n = (i : Int) ∧ rows[i]? = some r) (hg : Gd ops env o g) (hop : o.op = .indexAddr T x y)
    (hx : evo env x = some (gx, v)) (hy : evo env y = some (gy, .int k n)) (hi : g = true → gx = true ∧ gy = true) : PV P ops o env g (ptrAt v (i * sz)) :=
  fun _ _ hf => ⟨hg.wanted hf, fun e w => by
    obtain ⟨rfl, h2⟩ := hn e
    have hlt := hr.lt h2
    obtain ⟨b, off, c, rfl, _⟩ := hr.nn hlt
    obtain ⟨inf, h3, h4⟩ := hE
    simp [execOp, hop, hf.ev hx (hi e).1, hf.ev hy (hi e).2, Instr.indexAt, asIntOf, run_und hT, sizeOf, run_info h3, h4, hlt, addr_add, ptrAt]⟩

theorem pv_faat {s : TypeId} {f fo q : Nat} (fa : faB P s f fo = true) (hv : g = true → ∃ b off l c, v = .slice (some ⟨b, off, Option.none⟩) l c) (hg : Gd ops env o g) (hop : o.op = .fieldAddr s x f) (hx : evo env x = some (gx, ptrAt v q)) (hi : g = true → gx = true) :
    PV P ops o env g (ptrAt v (q + fo)) := fun N a hf => ⟨hg.wanted hf, fun e w => by
  obtain ⟨b, off, l, c, rfl⟩ := hv e
  have := (pv_fa (P := P) (o := o) (ops := ops) (env := env) (g := g) (gx := gx) (x := x) (b := b) (off := off + q) fa hg hop hx hi N a hf).2 e w
  rw [this]; simp [ptrAt, Nat.add_assoc]⟩
theorem Rd.sh {sz i : Nat} {rows : List (List Value)} {r : List Value} (h : Rd M H v sz rows) (hi : rows[i]? = some r) : ∃ b off l c, v = .slice (some ⟨b, off, Option.none⟩) l c := let ⟨b, off, c, e, _⟩ := h.nn (h.lt hi); ⟨b, off, _, c, e⟩

theorem rv_ldat {t sz i j q : Nat} {rows : List (List Value)} {r : List Value} (tc : tcB P t = true) (hr : Rd M H v sz rows) (hrow : g = true → rows[i]? = some r) (hg : Gd ops env o g) (hop : o.op = .load t x) (hx : evo env x = some (gx, ptrAt v q)) (hi : g = true → gx = true) (hq : q = i * sz + j) (hj : g = true → r[j]? = some u) :
    RV P M ops o env H g u := fun N a w hf ho => ⟨hg.wanted hf, fun e => by
  subst hq
  obtain ⟨b, off, c, rfl, hc⟩ := hr.nn (hr.lt (hrow e))
  refine (rv_ldc (M := M) (H := H) (P := P) tc (fun w ho => ?_) hg hop hx hi N a w hf ho).2 e
  exact hc w ho _ u (flat_get hr.ok i r j u (hrow e) (hj e))⟩
theorem rv_ldats {t sz i j q n : Nat} {rows : List (List Value)} {r us : List Value} (ta : taB P t n = true) (hr : Rd M H v sz rows) (hrow : g = true → rows[i]? = some r) (hg : Gd ops env o g) (hop : o.op = .load t x) (hx : evo env x = some (gx, ptrAt v q)) (hi : g = true → gx = true) (hq : q = i * sz + j) (hj : Tk n (r.drop j) us) :
    RV P M ops o env H g (.agg us.toArray) := fun N a w hf ho => ⟨hg.wanted hf, fun e => by
  subst hq
  obtain ⟨b, off, c, rfl, hc⟩ := hr.nn (hr.lt (hrow e))
  refine (rv_lda (M := M) (H := H) (P := P) ta (fun w ho k u hu => ?_) hj.length hg hop hx hi N a w hf ho).2 e
  have h1 := hj.get k u hu
  rw [List.getElem?_drop] at h1
  rw [Nat.add_assoc, Nat.add_assoc]
  exact hc w ho _ u (flat_get hr.ok i r (j + k) u (hrow e) h1)⟩

/-! ### Slice literals -/

theorem x_bslice {sz nn d : Nat} {ps : List (Nat × Operand)} {zl zs cs : List Value} {rows : List (List Value)} (pl : List (Nat × Nat)) (hT : P.underlying T = some (.slice E)) (hE : SizeIs P E sz) (zr : ZR P E zl) (hnz : nn * sz ≤ 16777216) (hcap : nn ≤ maxLen) (hpl : ∀ i, pl[i]? = if i < nn then some (i * sz, sz) else Option.none) (hps : ps.all (fun q => Nat.blt q.1 nn) = true)
    (hzs : (List.range (nn * sz)).map (fun i => zl.toArray[i % zl.length]!) = zs) (hop : o.op = .buildSlice T nn ps.toArray) (hgd : o.guard = Option.none) (hd : o.dst = some d) (hN : Nat.blt d N = true)
    (hfl : FillR pl env true zs ps cs) (hrows : rows.flatten = cs) (hok : RowsOk sz rows) (hlen : rows.length = nn)
    (h : ∀ b, Rr ((d, true, .slice (some ⟨b, 0, Option.none⟩) nn nn) :: env) (arr b E sz rows nn :: H)) : OpX P N M ops o env H Rr := fun a w Kc Q hf ho hK => by
  have hw : Region.wanted o (yielded ops a.tmps) = true := by simp [Region.wanted, hgd]
  rw [hw, if_pos rfl]
  subst hrows
  have hr : (execOp a.eval o).run P w = .ok (.value (.slice (some ⟨w.heap.size, 0, Option.none⟩) nn nn)) (w.alloc (.cells rows.flatten.toArray E)) := by
    obtain ⟨inf, h3, h4⟩ := hE
    unfold ZR at zr
    rw [h3] at zr
    cases hz : inf.zero with
    | none => simp [hz] at zr
    | some zv =>
      simp [hz] at zr
      have hzc : zv.cells = zl.toArray := by rw [← zr]
      have hfr := hfl.run hf rfl
      have hfun : (Instr.fill (fun i => some (i * sz, sz)) zs.toArray (ps.map fun p => (p.1, a.eval p.2))) = some rows.flatten.toArray := by
        rw [← hfr]
        have : ∀ (ps : List (Nat × Operand)) (cs : Array Value), ps.all (fun q => Nat.blt q.1 nn) = true → Instr.fill (fun i => some (i * sz, sz)) cs (ps.map fun p => (p.1, a.eval p.2)) = Instr.fill (fun i => pl.toArray[i]?) cs (ps.map fun p => (p.1, a.eval p.2)) := by
          intro ps
          induction ps with
          | nil => intro cs _; rfl
          | cons q ps ih =>
            intro cs hq
            simp only [List.all_cons, Bool.and_eq_true] at hq
            have hlt : q.1 < nn := by simpa using hq.1
            have hpq : pl.toArray[q.1]? = some (q.1 * sz, sz) := by simp [hpl, hlt]
            simp only [List.map_cons, Instr.fill, hpq]
            split
            · rfl
            · exact ih _ hq.2
        exact this ps _ hps
      have hzero : ((Array.range (nn * sz)).map fun i => zv.cells[i % zv.cells.size]!) = zs.toArray := by
        rw [hzc, ← hzs]
        apply Array.ext'
        simp
      simp only [execOp, hop, Instr.buildSlice, Sem.run_bind, run_und hT, Result.andThen_ok, sizeOf, run_info h3, Sem.run_pure, h4]
      rw [if_neg (by omega)]
      by_cases h0 : nn * sz = 0
      · have hnil : zs = [] := by rw [← hzs, h0]; rfl
        subst hnil
        have hr0 : Array.range 0 = #[] := rfl
        simp only [h0, if_true, List.map_toArray]
        simp [hr0, hfun, newRow]
      · simp only [h0, if_false, zeroValue, Sem.run_bind, run_info h3, Result.andThen_ok, hz, Sem.run_pure]
        simp only [hzero, List.map_toArray]
        simp [hfun, newRow]
  simp only [Oper.wp, hr, Oper.upon_value]
  refine hK _ _ _ _ (h w.heap.size) (by rw [hd]; exact hf.put hN true _) ?_
  have := ho.alloc rows.flatten E
  refine Own.arrI (sp := []) (by simpa using this) hok (by omega) hcap ?_
  rw [List.append_nil, flat_len hok, hlen]

theorem ins_all {us : List Value} : ∀ {zs : List Value}, zs.length = us.length → Ins zs 0 us us := by
  induction us with
  | nil => intro zs h; cases zs with
    | nil => exact .z
    | cons _ _ => simp at h
  | cons u us ih => intro zs h; cases zs with
    | nil => simp at h
    | cons z zs => exact .p (ih (by simpa using h))
/-- A slice of one element. -/
theorem x_bslice1 {sz d : Nat} {zl us : List Value} (hT : P.underlying T = some (.slice E)) (hE : SizeIs P E sz) (zr : ZR P E zl) (hzl : Nat.beq zl.length sz = true) (hx : evo env x = some (true, v)) (hu : v.cells = us.toArray) (hl : us.length = sz) (h1 : us.all (·.oneCell') = true) (hsz : Nat.ble sz 16777216 = true) (hN : Nat.blt d N = true)
    (hop : o.op = .buildSlice T 1 #[(0, x)]) (hgd : o.guard = Option.none) (hd : o.dst = some d)
    (h : ∀ b, Rr ((d, true, .slice (some ⟨b, 0, Option.none⟩) 1 1) :: env) (arr b E sz [us] 1 :: H)) : OpX P N M ops o env H Rr := by
  have hz : zl.length = sz := Nat.eq_of_beq_eq_true hzl
  have hs : sz ≤ 16777216 := Nat.le_of_ble_eq_true hsz
  refine x_bslice (nn := 1) (ps := [(0, x)]) (zl := zl) (zs := (List.range (1 * sz)).map (fun i => zl.toArray[i % zl.length]!)) (cs := us) (rows := [us]) [(0, sz)] hT hE zr (by omega) (by simp [maxLen]) (fun i => ?_) rfl rfl hop hgd hd hN
    (.c hx (fun _ => rfl) rfl hu hl (ins_all (by simp [hl])) .n) (by simp) (fun r hr => ?_) rfl h
  · cases i with
    | zero => simp
    | succ i => simp
  · simp at hr; subst hr
    exact ⟨hl, fun c hc => List.all_eq_true.1 h1 c hc⟩

theorem Rd.one {b sz : Nat} {us : List Value} (hl : us.length = sz) (h1 : us.all (·.oneCell') = true) (he : Ent H (Go.Proofs.Ytmakdilmibjpbab.arr b E sz [us] 1 :: R)) : Rd M H (.slice (some ⟨b, 0, Option.none⟩) 1 1) sz [us] :=
  Rd.arr (rows := [us]) (cap := 1) (fun r hr => by simp at hr; subst hr; exact ⟨hl, fun c hc => List.all_eq_true.1 h1 c hc⟩) (by simp) (by simp [maxLen]) he

/-! ### Reslicing -/

theorem run_slice {ao : Option Addr} {len cap l h : Nat} {lo hi : Option Value} (hT : P.underlying T = some (.slice E)) {sz : Nat} (hE : SizeIs P E sz) (hlo : lo = Option.none ∧ l = 0 ∨ ∃ kk, lo = some (.int kk (l : Int))) (hhi : hi = Option.none ∧ h = len ∨ ∃ kk, hi = some (.int kk (h : Int))) (h1 : l ≤ h) (h2 : h ≤ cap) (w : World) :
    (Instr.slice T (.slice ao len cap) lo hi Option.none).run P w = .ok (.slice (if cap = l then ao else ao.map (·.add (l * sz))) (h - l) (cap - l)) w := by
  obtain ⟨inf, h3, h4⟩ := hE
  rcases hlo with ⟨rfl, rfl⟩ | ⟨kk, rfl⟩ <;> rcases hhi with ⟨rfl, rfl⟩ | ⟨kk', rfl⟩ <;>
    simp [Instr.slice, run_und hT, Instr.sliceBounds, Instr.sliceBound, asIntOf, sizeOf, run_info h3, h4, h1, h2]

theorem flat_drop {sz : Nat} : ∀ {rows : List (List Value)} {l : Nat}, RowsOk sz rows → l ≤ rows.length → (rows.drop l).flatten = rows.flatten.drop (l * sz)
  | rows, 0, _, _ => by simp
  | [], l + 1, _, h => by simp at h
  | r :: rows, l + 1, hok, h => by
    simp only [List.drop_succ_cons, List.flatten_cons]
    rw [flat_drop hok.tail (by simpa using h), Nat.succ_mul]
    have := (hok r (by simp)).1
    rw [Nat.add_comm, ← List.drop_drop, ← this, List.drop_left]
theorem flat_take {sz : Nat} : ∀ {rows : List (List Value)} {h : Nat}, RowsOk sz rows → ∀ (j : Nat) (u : Value), (rows.take h).flatten[j]? = some u → rows.flatten[j]? = some u
  | _, 0, _, j, u, hh => by simp at hh
  | [], h + 1, _, j, u, hh => by simp at hh
  | r :: rows, h + 1, hok, j, u, hh => by
    simp only [List.take_succ_cons, List.flatten_cons] at hh ⊢
    by_cases hj : j < r.length
    · rw [List.getElem?_append_left hj] at hh ⊢; exact hh
    · rw [List.getElem?_append_right (by omega)] at hh ⊢
      exact flat_take hok.tail _ u hh
theorem RowsOk.drop {sz l : Nat} {rows : List (List Value)} (h : RowsOk sz rows) : RowsOk sz (rows.drop l) := fun r hr => h r (List.mem_of_mem_drop hr)
theorem RowsOk.take {sz l : Nat} {rows : List (List Value)} (h : RowsOk sz rows) : RowsOk sz (rows.take l) := fun r hr => h r (List.mem_of_mem_take hr)

/-- What 'v[l:h]' is. -/
def resl (v : Value) (sz l h : Nat) : Value := match v with | .slice ao _ cap => .slice (if cap = l then ao else ao.map (·.add (l * sz))) (h - l) (cap - l) | v => v
theorem Rd.resl {sz l h : Nat} {rows : List (List Value)} (hr : Rd M H v sz rows) (h1 : l ≤ h) (h2 : h ≤ rows.length) : Rd M H (Go.Proofs.Ytmakdilmibjpbab.resl v sz l h) sz ((rows.take h).drop l) := by
  obtain ⟨ao, cap, rfl, q1, q2, q3, q4⟩ := hr.is
  have hlen : ((rows.take h).drop l).length = h - l := by simp; omega
  refine ⟨hr.ok.take.drop, (if cap = l then ao else ao.map (·.add (l * sz))), cap - l, by rw [hlen]; rfl, by rw [hlen]; omega, by omega, fun hn => ?_, fun A hA hp => ?_⟩
  · rw [hlen]
    split at hn
    · have := q3 hn; omega
    · simp at hn; have := q3 hn; omega
  · split at hA
    · rename_i hc
      rw [hlen] at hp
      obtain ⟨s1, s2⟩ := q4 A hA (by omega)
      refine ⟨s1, fun w ho j u hu => ?_⟩
      have : (List.drop l (List.take h rows)) = [] := List.eq_nil_of_length_eq_zero (by rw [hlen]; omega)
      rw [this] at hu; simp at hu
    · cases ao with
      | none => simp at hA
      | some A0 =>
        simp at hA
        rw [hlen] at hp
        obtain ⟨s1, s2⟩ := q4 A0 rfl (by omega)
        obtain ⟨b, off, spot⟩ := A0
        simp at s1; subst s1
        rw [addr_add] at hA
        subst hA
        refine ⟨rfl, fun w ho j u hu => ?_⟩
        simp only
        rw [Nat.add_assoc]
        refine s2 w ho _ u ?_
        rw [flat_drop hr.ok.take (by simp; omega), List.getElem?_drop] at hu
        exact flat_take hr.ok _ u hu
theorem pv_slc {sz l h : Nat} {lo hi : Option Operand} {rows : List (List Value)} {lv hv : Option Value} (hT : P.underlying T = some (.slice E)) (hE : SizeIs P E sz) (hr : Rd M H v sz rows) (h1 : l ≤ h) (h2 : h ≤ rows.length) (hgd : o.guard = Option.none) (hop : o.op = .slice T x lo hi Option.none) (hx : evo env x = some (true, v))
    (hlo : lo = Option.none ∧ lv = Option.none ∧ l = 0 ∨ ∃ y kk, lo = some y ∧ evo env y = some (true, .int kk (l : Int)) ∧ lv = some (.int kk (l : Int))) (hhi : hi = Option.none ∧ hv = Option.none ∧ h = rows.length ∨ ∃ y kk, hi = some y ∧ evo env y = some (true, .int kk (h : Int)) ∧ hv = some (.int kk (h : Int))) :
    PV P ops o env true (resl v sz l h) := fun _ a hf => ⟨(Gd.n hgd).wanted hf, fun _ w => by
  obtain ⟨ao, cap, rfl, q1, q2, q3, q4⟩ := hr.is
  have e1 : lo.map a.eval = lv := by
    rcases hlo with ⟨rfl, rfl, _⟩ | ⟨y, kk, rfl, hy, rfl⟩
    · rfl
    · simp [hf.ev hy rfl]
  have e2 : hi.map a.eval = hv := by
    rcases hhi with ⟨rfl, rfl, _⟩ | ⟨y, kk, rfl, hy, rfl⟩
    · rfl
    · simp [hf.ev hy rfl]
  have hrun := run_slice (P := P) (ao := ao) (len := rows.length) (cap := cap) (l := l) (h := h) (lo := lv) (hi := hv) hT hE (by
    rcases hlo with ⟨_, h, h'⟩ | ⟨_, kk, _, _, h⟩
    · exact .inl ⟨h, h'⟩
    · exact .inr ⟨kk, h⟩) (by
    rcases hhi with ⟨_, h, h'⟩ | ⟨_, kk, _, _, h⟩
    · exact .inl ⟨h, h'⟩
    · exact .inr ⟨kk, h⟩) h1 (by omega) w
  simp [execOp, hop, hf.ev hx rfl, Instr.sliceAt, run_und hT, e1, e2, hrun, resl]⟩

end Go.Proofs.Ytmakdilmibjpbab
