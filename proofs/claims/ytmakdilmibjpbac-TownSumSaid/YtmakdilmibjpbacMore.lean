/- More laws of the engine: arithmetic that does not wrap, struct literals, equality of structs, slice literals, append, reslicing, tuples. -/
import Derived.Test.YtmakdilmibjpbacCall
namespace Go.Proofs.Ytmakdilmibjpbac
open Go Go.RowKit

variable {P : Program} {F : Exit → Act → World → Prop} {N : Nat} {M : Amb} {env : Env} {H H' R : List HP} {a : Act} {w : World} {ops : Array Oper} {o : Oper} {rest : List Oper} {K : List KI}
variable {g gx gy gz : Bool} {x y z : Operand} {v v' u : Value} {Rr : Env → List HP → Prop} {f : FuncId} {fn : Func} {Post : Value → List HP → Prop} {T T2 E : TypeId} {k : IntKind} {m n : Int}

theorem wrap_in {n : Int} (h : -9223372036854775808 ≤ n ∧ n ≤ 9223372036854775807) : IntKind.i64.wrap n = n := by
  rw [IntKind.wrap_i64]; omega

theorem pv_add (hb : g = true → -9223372036854775808 ≤ m + n ∧ m + n ≤ 9223372036854775807) (hg : Gd ops env o g) (hop : o.op = .binOp .add T x y T2) (hx : evo env x = some (gx, .int .i64 m)) (hy : evo env y = some (gy, .int .i64 n)) (hi : g = true → gx = true ∧ gy = true) :
    PV P ops o env g (.int .i64 (m + n)) := pv_eq (pv_addw hg hop hx hy hi) fun e => by rw [wrap_in (hb e)]
theorem pv_sub (hb : g = true → -9223372036854775808 ≤ m - n ∧ m - n ≤ 9223372036854775807) (hg : Gd ops env o g) (hop : o.op = .binOp .sub T x y T2) (hx : evo env x = some (gx, .int .i64 m)) (hy : evo env y = some (gy, .int .i64 n)) (hi : g = true → gx = true ∧ gy = true) :
    PV P ops o env g (.int .i64 (m - n)) := pv_eq (pv_subw hg hop hx hy hi) fun e => by rw [wrap_in (hb e)]
theorem pv_mul (hb : g = true → -9223372036854775808 ≤ m * n ∧ m * n ≤ 9223372036854775807) (hg : Gd ops env o g) (hop : o.op = .binOp .mul T x y T2) (hx : evo env x = some (gx, .int .i64 m)) (hy : evo env y = some (gy, .int .i64 n)) (hi : g = true → gx = true ∧ gy = true) :
    PV P ops o env g (.int .i64 (m * n)) := pv_eq (pv_mulw hg hop hx hy hi) fun e => by rw [wrap_in (hb e)]
theorem pv_neg (hb : g = true → -9223372036854775808 ≤ -m ∧ -m ≤ 9223372036854775807) (hg : Gd ops env o g) (hop : o.op = .unOp .neg T x) (hx : evo env x = some (gx, .int .i64 m)) (hi : g = true → gx = true) :
    PV P ops o env g (.int .i64 (-m)) := pv_eq (pv_negw hg hop hx hi) fun e => by rw [wrap_in (hb e)]
theorem pv_quo (hn : g = true → ¬ n = 0) (hb : g = true → -9223372036854775808 ≤ m.tdiv n ∧ m.tdiv n ≤ 9223372036854775807) (hg : Gd ops env o g) (hop : o.op = .binOp .quo T x y T2) (hx : evo env x = some (gx, .int .i64 m)) (hy : evo env y = some (gy, .int .i64 n)) (hi : g = true → gx = true ∧ gy = true) :
    PV P ops o env g (.int .i64 (m.tdiv n)) :=
  fun _ _ hf => ⟨hg.wanted hf, fun e w => by simp [execOp, hop, hf.ev hx (hi e).1, hf.ev hy (hi e).2, binOp, eqGuard, Op.intDiv, hn e, wrap_in (hb e)]⟩
theorem pv_rem (hn : g = true → ¬ n = 0) (hg : Gd ops env o g) (hop : o.op = .binOp .rem T x y T2) (hx : evo env x = some (gx, .int k m)) (hy : evo env y = some (gy, .int k n)) (hi : g = true → gx = true ∧ gy = true) :
    PV P ops o env g (.int k (m.tmod n)) :=
  fun _ _ hf => ⟨hg.wanted hf, fun e w => by simp [execOp, hop, hf.ev hx (hi e).1, hf.ev hy (hi e).2, binOp, eqGuard, Op.intDiv, hn e]⟩
theorem pv_conv {s d : TypeId} {k' : IntKind} (hs : P.underlying s = some (.int k)) (hd : P.underlying d = some (.int k')) (hg : Gd ops env o g) (hop : o.op = .convert s d x) (hx : evo env x = some (gx, .int k m)) (hi : g = true → gx = true) :
    PV P ops o env g (.int k' (k'.wrap m)) :=
  fun _ _ hf => ⟨hg.wanted hf, fun e w => by simp [execOp, hop, hf.ev hx (hi e), convert, run_und hs, run_und hd, Conv.intToInt]⟩

theorem run_eqb (d : Nat) (b c : Bool) (hT : P.underlying T = some .bool) (w : World) : (Op.equalIn (d + 1) T (.bool b) (.bool c)).run P w = .ok (b == c) w := by
  simp [Op.equalIn, run_und hT]
theorem run_eqp {e : TypeId} (d : Nat) (A : Option Addr) (hT : P.underlying T = some (.pointer e)) (w : World) : (Op.equalIn (d + 1) T (.pointer A) (.pointer Option.none)).run P w = .ok A.isNone w := by
  cases A <;> simp [Op.equalIn, run_und hT]
theorem run_eqs {e : TypeId} (d : Nat) (A : Option Addr) (l c : Nat) (hT : P.underlying T = some (.slice e)) (w : World) : (Op.equalIn (d + 1) T (.slice A l c) (.slice Option.none 0 0)).run P w = .ok A.isNone w := by
  cases A <;> simp [Op.equalIn, run_und hT]

theorem pv_beq {b c : Bool} (hT : P.underlying T = some .bool) (hg : Gd ops env o g) (hop : o.op = .binOp .eql T x y T2) (hx : evo env x = some (gx, .bool b)) (hy : evo env y = some (gy, .bool c)) (hi : g = true → gx = true ∧ gy = true) :
    PV P ops o env g (.bool (b == c)) :=
  fun _ _ hf => ⟨hg.wanted hf, fun e w => by simp [execOp, hop, hf.ev hx (hi e).1, hf.ev hy (hi e).2, binOp, eqGuard, Op.equal, Op.maxDepth, run_eqb 9999 b c hT]⟩
theorem pv_bne {b c : Bool} (hT : P.underlying T = some .bool) (hg : Gd ops env o g) (hop : o.op = .binOp .neq T x y T2) (hx : evo env x = some (gx, .bool b)) (hy : evo env y = some (gy, .bool c)) (hi : g = true → gx = true ∧ gy = true) :
    PV P ops o env g (.bool (!(b == c))) :=
  fun _ _ hf => ⟨hg.wanted hf, fun e w => by simp [execOp, hop, hf.ev hx (hi e).1, hf.ev hy (hi e).2, binOp, eqGuard, Op.equal, Op.maxDepth, run_eqb 9999 b c hT]⟩

/-- Two aggregates, held against each other. -/
def EqT (P : Program) (T : TypeId) (xs ys : List Value) (b : Bool) : Prop := P.eqGuardType P.depth T = false ∧ ∀ w, (Op.equalIn 10000 T (.agg xs.toArray) (.agg ys.toArray)).run P w = .ok b w
theorem pv_aeq {xs ys : List Value} {b : Bool} (he : EqT P T xs ys b) (hg : Gd ops env o g) (hop : o.op = .binOp .eql T x y T2) (hx : evo env x = some (gx, .agg xs.toArray)) (hy : evo env y = some (gy, .agg ys.toArray)) (hi : g = true → gx = true ∧ gy = true) :
    PV P ops o env g (.bool b) :=
  fun _ _ hf => ⟨hg.wanted hf, fun e w => by
    have h1 := run_eqGuard_agg (P := P) w .eql T x y xs.toArray ys.toArray he.1
    have h2 := run_eql_struct (P := P) w T xs.toArray ys.toArray
    rw [he.2 w] at h2
    simp [execOp, hop, hf.ev hx (hi e).1, hf.ev hy (hi e).2, h1, h2]⟩
theorem pv_ane {xs ys : List Value} {b : Bool} (he : EqT P T xs ys b) (hg : Gd ops env o g) (hop : o.op = .binOp .neq T x y T2) (hx : evo env x = some (gx, .agg xs.toArray)) (hy : evo env y = some (gy, .agg ys.toArray)) (hi : g = true → gx = true ∧ gy = true) :
    PV P ops o env g (.bool (!b)) :=
  fun _ _ hf => ⟨hg.wanted hf, fun e w => by
    have h1 := run_eqGuard_agg (P := P) w .neq T x y xs.toArray ys.toArray he.1
    have h2 := run_neq_struct (P := P) w T xs.toArray ys.toArray
    rw [he.2 w] at h2
    simp [execOp, hop, hf.ev hx (hi e).1, hf.ev hy (hi e).2, h1, h2]⟩
/-- A pointer, a slice held against nil. -/
theorem pv_peqn {e : TypeId} {A : Option Addr} (hT : P.underlying T = some (.pointer e)) (hg : Gd ops env o g) (hop : o.op = .binOp .eql T x y T2) (hx : evo env x = some (gx, .pointer A)) (hy : evo env y = some (gy, (.pointer Option.none))) (hi : g = true → gx = true ∧ gy = true) :
    PV P ops o env g (.bool A.isNone) :=
  fun _ _ hf => ⟨hg.wanted hf, fun e w => by simp [execOp, hop, hf.ev hx (hi e).1, hf.ev hy (hi e).2, binOp, eqGuard, Op.equal, Op.maxDepth, run_eqp 9999 A hT]⟩
theorem pv_pnen {e : TypeId} {A : Option Addr} (hT : P.underlying T = some (.pointer e)) (hg : Gd ops env o g) (hop : o.op = .binOp .neq T x y T2) (hx : evo env x = some (gx, .pointer A)) (hy : evo env y = some (gy, (.pointer Option.none))) (hi : g = true → gx = true ∧ gy = true) :
    PV P ops o env g (.bool (!A.isNone)) :=
  fun _ _ hf => ⟨hg.wanted hf, fun e w => by simp [execOp, hop, hf.ev hx (hi e).1, hf.ev hy (hi e).2, binOp, eqGuard, Op.equal, Op.maxDepth, run_eqp 9999 A hT]⟩
theorem pv_seqn {e : TypeId} {A : Option Addr} {l c : Nat} (hT : P.underlying T = some (.slice e)) (hg : Gd ops env o g) (hop : o.op = .binOp .eql T x y T2) (hx : evo env x = some (gx, .slice A l c)) (hy : evo env y = some (gy, (.slice Option.none 0 0))) (hi : g = true → gx = true ∧ gy = true) :
    PV P ops o env g (.bool A.isNone) :=
  fun _ _ hf => ⟨hg.wanted hf, fun e w => by simp [execOp, hop, hf.ev hx (hi e).1, hf.ev hy (hi e).2, binOp, eqGuard, Op.equal, Op.maxDepth, run_eqs 9999 A l c hT]⟩

theorem pv_ext {t i : Nat} {vs : List Value} (hg : Gd ops env o g) (hop : o.op = .extract (.tmp t) i) (hx : look env t = some (gx, .tuple vs.toArray)) (hv : vs[i]? = some v) (hi : g = true → gx = true) : PV P ops o env g v :=
  fun _ _ hf => ⟨hg.wanted hf, fun e w => by simp [execOp, hop, hf.ev (x := .tmp t) hx (hi e), Instr.extract, hv]⟩

/-- The places of a struct's fields: offset and size. -/
def PL (P : Program) (T : TypeId) (pl : List (Nat × Nat)) : Prop := ∃ fs, P.underlying T = some (.struct fs) ∧ (fs.toList.map fun f => (f.offset, (P.info? f.type).map (·.size))) = pl.map fun p => (p.1, some p.2)

inductive FillR (pl : List (Nat × Nat)) (env : Env) (g : Bool) : List Value → List (Nat × Operand) → List Value → Prop
  | n {cs : List Value} : FillR pl env g cs [] cs
  | c {cs cs1 cs2 us : List Value} {i off sz : Nat} {x : Operand} {ps : List (Nat × Operand)} {v : Value} {gx : Bool} (hx : evo env x = some (gx, v)) (hgx : g = true → gx = true) (hp : pl[i]? = some (off, sz)) (hu : v.cells = us.toArray) (hl : us.length = sz) (hi : Ins cs off us cs1)
      (k : FillR pl env g cs1 ps cs2) : FillR pl env g cs ((i, x) :: ps) cs2

theorem foldl_ins : ∀ (us cs : List Value) (off : Nat), off + us.length ≤ cs.length →
    (us.toArray.zipIdx.foldl (fun (c : Array Value) (p : Value × Nat) => c.setIfInBounds (off + p.2) p.1) cs.toArray) = (cs.take off ++ us ++ cs.drop (off + us.length)).toArray := by
  intro us
  have key : ∀ (us cs : List Value) (off k : Nat), off + k + us.length ≤ cs.length →
      ((us.zipIdx k).foldl (fun (c : Array Value) (p : Value × Nat) => c.setIfInBounds (off + p.2) p.1) cs.toArray) = (cs.take (off + k) ++ us ++ cs.drop (off + k + us.length)).toArray := by
    intro us
    induction us with
    | nil => intro cs off k _; simp
    | cons u us ih =>
      intro cs off k hl
      simp only [List.length_cons] at hl
      simp only [List.zipIdx_cons, List.foldl_cons]
      have := ih (cs.set (off + k) u) off (k + 1) (by simp; omega)
      rw [show cs.toArray.setIfInBounds (off + k) u = (cs.set (off + k) u).toArray from by simp]
      rw [this]
      congr 1
      have e1 : (cs.set (off + k) u).take (off + (k + 1)) = cs.take (off + k) ++ [u] := by
        rw [← Nat.add_assoc, List.take_succ_eq_append_getElem (by simp; omega)]
        simp [List.take_set_of_le]
      have e2 : (cs.set (off + k) u).drop (off + (k + 1) + us.length) = cs.drop (off + k + (us.length + 1)) := by
        rw [List.drop_set_of_lt (by omega)]
        congr 1; omega
      rw [e1, e2]; simp
  intro cs off hl
  have := key us cs off 0 (by simpa using hl)
  rw [← Array.foldl_toList]
  simpa using this

theorem FillR.run {pl : List (Nat × Nat)} {cs cs' : List Value} {ps : List (Nat × Operand)} (h : FillR pl env g cs ps cs') (hf : Fits N env a) (hg : g = true) :
    Instr.fill (fun i => (pl.toArray)[i]?) cs.toArray (ps.map fun p => (p.1, a.eval p.2)) = some cs'.toArray := by
  induction h with
  | n => simp [Instr.fill]
  | c hx hgx hp hu hl hi k ih =>
    rename_i cs cs1 cs2 us i off sz x ps v gx
    obtain ⟨h1, h2⟩ := hi.eq
    have hev := hf.ev hx (hgx hg)
    simp only [List.map_cons, Instr.fill]
    have hp' : pl.toArray[i]? = some (off, sz) := by simpa using hp
    rw [hp', hev, hu]
    simp only [List.size_toArray, hl]
    have hno : ¬ (sz ≠ sz ∨ off + sz > cs.length) := by omega
    simp only [ne_eq, not_true_eq_false, decide_false, Bool.false_or, decide_eq_true_eq]
    rw [if_neg (by omega)]
    rw [foldl_ins us cs off h1, ← h2]
    exact ih

theorem pv_build {zs cs' : List Value} {pl : List (Nat × Nat)} {ps : List (Nat × Operand)} (zr : ZR P T zs) (hp : PL P T pl) (hg : Gd ops env o g) (hop : o.op = .build T ps.toArray) (hfl : FillR pl env g zs ps cs') : PV P ops o env g (.agg cs'.toArray) :=
  fun _ a hf => ⟨hg.wanted hf, fun e w => by
    obtain ⟨fs, hu, hfs⟩ := hp
    unfold ZR at zr
    cases hi : P.info? T with
    | none => simp [hi] at zr
    | some i =>
      cases hz : i.zero with
      | none => simp [hi, hz] at zr
      | some zv =>
        simp [hi, hz] at zr
        have hplaces : (fs.mapM fun f => (do let s ← sizeOf f.type; pure (f.offset, s) : Sem (Nat × Nat))).run P w = .ok pl.toArray w := by
          have : ∀ (l : List Field) (pl : List (Nat × Nat)), (l.map fun f => (f.offset, (P.info? f.type).map (·.size))) = pl.map (fun p => (p.1, some p.2)) →
              (l.mapM fun f => Functor.map (Prod.mk f.offset) (sizeOf f.type)).run P w = .ok pl w := by
            intro l
            induction l with
            | nil => intro pl h; cases pl <;> simp at h ⊢
            | cons f l ih =>
              intro pl h
              cases pl with
              | nil => simp at h
              | cons p pl =>
                simp at h
                obtain ⟨⟨h1, h2⟩, h3⟩ := h
                have := ih pl (by simpa using h3)
                obtain ⟨inf, hinf, hsz⟩ := h2
                have hs : (sizeOf f.type).run P w = .ok p.2 w := by simp [sizeOf, run_info hinf, hsz]
                simp [List.mapM_cons, hs, this, h1]
          rw [Array.mapM_eq_mapM_toList]
          simp [this fs.toList pl hfs]
        have hzc : zv.cells = zs.toArray := by rw [← zr]
        have hfr := hfl.run hf e
        simp only [execOp, hop, Instr.build, Sem.run_bind, zeroValue, run_info hi, Result.andThen_ok, hz, Sem.run_pure, run_und hu, hplaces, hzc]
        simp only [List.map_toArray]
        rw [hfr]
        rfl⟩

theorem Own.exE {α : Type} {G : α → HP} (ho : Own M ((fun h => ∃ x, G x h) :: R) w) : ∃ x, Own M (G x :: R) w := by
  obtain ⟨hb, hs, h, ⟨a, b, ⟨x, hx⟩, r⟩, hh⟩ := ho
  exact ⟨x, hb, hs, h, ⟨a, b, hx, r⟩, hh⟩
theorem Own.andE {p : Prop} {X : HP} (ho : Own M ((fun h => p ∧ X h) :: R) w) : p ∧ Own M (X :: R) w := by
  obtain ⟨hb, hs, h, ⟨a, b, ⟨hp, hx⟩, r⟩, hh⟩ := ho
  exact ⟨hp, hb, hs, h, ⟨a, b, hx, r⟩, hh⟩
theorem Own.imp {X Y : HP} (ho : Own M (X :: R) w) (h : ∀ x, X x → Y x) : Own M (Y :: R) w := ho.ent (Ent.imp h)
theorem Own.arrE {b sz cap : Nat} {rows : List (List Value)} (ho : Own M (arr b E sz rows cap :: R) w) :
    ∃ sp, Own M (Go.Proofs.Ytmakdilmibjpbac.blk b (rows.flatten ++ sp) E :: R) w ∧ RowsOk sz rows ∧ rows.length ≤ cap ∧ cap ≤ maxLen ∧ (rows.flatten ++ sp).length = cap * sz := by
  obtain ⟨hb, hs, h, ⟨a, c, ⟨sp, hx, q⟩, r⟩, hh⟩ := ho
  exact ⟨sp, ⟨hb, hs, h, ⟨a, c, hx, r⟩, hh⟩, q⟩
theorem Own.arrI {b sz cap : Nat} {rows : List (List Value)} {sp : List Value} (ho : Own M (Go.Proofs.Ytmakdilmibjpbac.blk b (rows.flatten ++ sp) E :: R) w) (h1 : RowsOk sz rows) (h2 : rows.length ≤ cap) (h3 : cap ≤ maxLen) (h4 : (rows.flatten ++ sp).length = cap * sz) :
    Own M (arr b E sz rows cap :: R) w := ho.imp fun _ hx => ⟨sp, hx, h1, h2, h3, h4⟩
theorem Own.slE {sz : Nat} {rows : List (List Value)} (ho : Own M (sl v E sz rows :: R) w) :
    (v = .slice Option.none 0 0 ∧ rows = [] ∧ Own M R w) ∨ ∃ b cap, v = .slice (some ⟨b, 0, Option.none⟩) rows.length cap ∧ Own M (arr b E sz rows cap :: R) w := by
  obtain ⟨hb, hs, h, ⟨a, c, hx, r⟩, hh⟩ := ho
  rcases hx with ⟨h1, h2, h3⟩ | ⟨b, cap, h1, h2⟩
  · refine .inl ⟨h1, h2, ?_⟩
    exact (show Own M (_ :: R) w from ⟨hb, hs, h, ⟨a, c, h3, r⟩, hh⟩ : Own M ((fun h => h = Hp.emp) :: R) w).ent Ent.drop
  · exact .inr ⟨b, cap, h1, hb, hs, h, ⟨a, c, h2, r⟩, hh⟩
theorem Own.slI {sz b cap : Nat} {rows : List (List Value)} (ho : Own M (arr b E sz rows cap :: R) w) : Own M (sl (.slice (some ⟨b, 0, Option.none⟩) rows.length cap) E sz rows :: R) w :=
  ho.imp fun _ hx => .inr ⟨b, cap, rfl, hx⟩
theorem Own.slN {sz : Nat} (ho : Own M R w) : Own M (sl (.slice Option.none 0 0) E sz [] :: R) w := by
  obtain ⟨hb, hs, h, hx, hh⟩ := ho
  exact ⟨hb, hs, h, ⟨Hp.emp, h, .inl ⟨rfl, rfl, rfl⟩, hx, fun _ => .inl rfl, funext fun _ => rfl⟩, hh⟩
theorem Ent.slN {sz : Nat} : Ent R (sl (.slice Option.none 0 0) E sz [] :: R) := fun h hx => ⟨h, ⟨Hp.emp, h, .inl ⟨_root_.rfl, _root_.rfl, _root_.rfl⟩, hx, fun _ => .inl _root_.rfl, funext fun _ => _root_.rfl⟩, Hp.sub_refl h⟩

theorem Rd.arr {b sz cap : Nat} {rows : List (List Value)} (h1 : RowsOk sz rows) (h2 : rows.length ≤ cap) (h3 : cap ≤ maxLen) (he : Ent H (Go.Proofs.Ytmakdilmibjpbac.arr b E sz rows cap :: R)) : Rd M H (.slice (some ⟨b, 0, Option.none⟩) rows.length cap) sz rows :=
  ⟨h1, _, cap, rfl, h2, h3, (fun h => by cases h), fun A hA _ => by
    cases hA
    refine ⟨rfl, fun w ho j u hu => ?_⟩
    obtain ⟨sp, ho', _⟩ := (ho.ent he).arrE
    rw [ho'.cell]
    simp only [Nat.zero_add]
    rw [List.getElem?_append_left (List.getElem?_eq_some_iff.1 hu).1]; exact hu⟩

/-- A slice of the call's own reads as its rows: its shape is known behind this. -/
theorem r_sl {sz : Nat} {rows : List (List Value)} (he : Ent H (sl v E sz rows :: R)) (h : Rd M H v sz rows → Run P F N M K env H) : Run P F N M K env H := fun a w hf ho => by
  refine h ?_ a w hf ho
  have ho' := ho.ent he
  rcases ho'.slE with ⟨rfl, rfl, _⟩ | ⟨b, cap, rfl, ho2⟩
  · exact ⟨fun r hr => by simp at hr, _, 0, rfl, by simp, by simp, fun _ => ⟨rfl, rfl⟩, (fun _ hA _ => by cases hA)⟩
  · obtain ⟨sp, _, q1, q2, q3, _⟩ := ho2.arrE
    refine ⟨q1, _, cap, rfl, q2, q3, (fun h => by cases h), fun A hA _ => ?_⟩
    cases hA
    refine ⟨rfl, fun w1 ho1 j u hu => ?_⟩
    rcases (ho1.ent he).slE with ⟨h, _⟩ | ⟨b1, cap1, h, ho3⟩
    · cases h
    · cases h
      obtain ⟨sp, ho4, _⟩ := ho3.arrE
      rw [ho4.cell]
      simp only [Nat.zero_add]
      rw [List.getElem?_append_left (List.getElem?_eq_some_iff.1 hu).1]; exact hu

/-! ### append -/

structure EL (P : Program) (E : TypeId) (sz bytes : Nat) : Prop where
  is : ∃ i z, P.info? E = some i ∧ i.zero = some z ∧ i.size = sz ∧ i.bytes = bytes ∧ z.cells.size = sz

def elB (P : Program) (E : TypeId) (sz bytes : Nat) : Bool := match P.info? E with
  | some i => (match i.zero with | some z => i.size == sz && i.bytes == bytes && z.cells.size == sz | Option.none => false)
  | Option.none => false
theorem elB.EL {sz bytes : Nat} (h : elB P E sz bytes = true) : EL P E sz bytes := by
  unfold elB at h
  split at h
  · rename_i i hi
    split at h
    · rename_i z hz
      simp at h
      exact ⟨i, z, hi, hz, h.1.1, h.1.2, h.2⟩
    · cases h
  · cases h

theorem flat_app {rows rows2 : List (List Value)} : (rows ++ rows2).flatten = rows.flatten ++ rows2.flatten := by simp
theorem RowsOk.app {sz : Nat} {rows rows2 : List (List Value)} (h : RowsOk sz rows) (k : RowsOk sz rows2) : RowsOk sz (rows ++ rows2) := fun r hr => by
  rcases List.mem_append.1 hr with hr | hr
  · exact h r hr
  · exact k r hr
theorem RowsOk.one {sz : Nat} {rows : List (List Value)} (h : RowsOk sz rows) : ∀ c ∈ rows.flatten, c.oneCell' = true := fun c hc => by
  obtain ⟨r, hr, hc⟩ := List.mem_flatten.1 hc
  exact (h r hr).2 c hc

theorem run_append_sl {sz bytes : Nat} {ty : TypeId} {rows rows2 : List (List Value)} (hT : P.underlying T = some (.slice E)) (hE : EL P E sz bytes) (hsz : 0 < sz) (ho : Own M H w) (he : Ent H (sl v E sz rows :: R)) (hr : Rd M H u sz rows2)
    (hb : (rows.length + rows2.length) * bytes ≤ 140737488355328) (hm : rows.length + rows2.length ≤ maxLen) :
    ∃ v' w', (Builtin.append_ #[T, T] ty #[v, u]).run P w = .ok v' w' ∧ Own M (sl v' E sz (rows ++ rows2) :: R) w' := by
  obtain ⟨i, z, hi, hz, h1, h2, h3⟩ := hE.is
  subst h1; subst h2
  obtain ⟨ao, cap2, rfl, hc1, hc2, hc3, hc4⟩ := hr.is
  have ho' := ho.ent he
  have hl2 : rows2.flatten.length = rows2.length * i.size := flat_len hr.ok
  by_cases h0 : rows2 = []
  · subst h0
    simp only [List.append_nil]
    refine ⟨v, w, ?_, ho'⟩
    rcases ho'.slE with ⟨rfl, rfl, _⟩ | ⟨b, cap, rfl, ho2⟩
    · cases ao <;> simp [Builtin.append_, run_und hT, sizeOf, run_info hi, Builtin.lenOf, Builtin.firstCells, loadCells, loadCellsFrom]
    · obtain ⟨sp, ho3, q1, q2, q3, q4⟩ := ho2.arrE
      cases ao <;> simp [Builtin.append_, run_und hT, sizeOf, run_info hi, Builtin.lenOf, Builtin.firstCells, loadCells, loadCellsFrom, q2, storeCells]
  · have hpos : 0 < rows2.length := List.length_pos_iff.2 h0
    cases ao with
    | none => have := (hc3 rfl).1; omega
    | some A =>
      obtain ⟨hs, hc⟩ := hc4 A rfl hpos
      obtain ⟨b2, off2, spot2⟩ := A
      simp at hs; subst hs
      have hnews : ∀ j u, rows2.flatten[j]? = some u → w.cell? ((⟨b2, off2, Option.none⟩ : Addr).add j) = some u := fun j u hu => by rw [addr_add]; exact hc w ho j u hu
      have hm' : rows.length + rows2.length ≤ 9223372036854775807 := by simp only [maxLen] at hm; omega
      have fresh : ∀ (old : Nat) (xs : List (List Value)), RowsOk i.size xs → Own M R w → old < xs.length + rows2.length → xs.length + rows2.length ≤ maxLen →
          Own M (sl (.slice (some ⟨w.heap.size, 0, Option.none⟩) (xs.length + rows2.length) (grownCap w (xs.length + rows2.length) old E)) E i.size (xs ++ rows2) :: R)
            (w.drew.alloc (.cells (xs.flatten.toArray ++ rows2.flatten.toArray ++ Builtin.zeroCells z.cells (grownCap w (xs.length + rows2.length) old E - (xs.length + rows2.length))) E)) := by
        intro old xs hxs hoR hold hle
        have hge := grownCap_ge w (xs.length + rows2.length) old E
        have hcm := grownCap_le_maxLen w (xs.length + rows2.length) old E hle
        have hal := (hoR.drawn (w.drawn + 1)).alloc ((xs ++ rows2).flatten ++ (Builtin.zeroCells z.cells (grownCap w (xs.length + rows2.length) old E - (xs.length + rows2.length))).toList) E
        have hal' := hal.arrI (cap := grownCap w (xs.length + rows2.length) old E) (sz := i.size) (hxs.app hr.ok) (by simpa using hge) hcm (by
          rw [List.length_append, flat_len (hxs.app hr.ok)]
          simp only [Array.length_toList, size_zeroCells, h3, List.length_append, ← Nat.add_mul]
          congr 1; omega)
        have hfin := hal'.slI
        simp only [List.length_append] at hfin
        have hw : w.drew.alloc (.cells (xs.flatten.toArray ++ rows2.flatten.toArray ++ Builtin.zeroCells z.cells (grownCap w (xs.length + rows2.length) old E - (xs.length + rows2.length))) E) =
            ({ w with drawn := w.drawn + 1 } : World).alloc (.cells ((xs ++ rows2).flatten ++ (Builtin.zeroCells z.cells (grownCap w (xs.length + rows2.length) old E - (xs.length + rows2.length))).toList).toArray E) := by
          congr 2
          apply Array.ext'
          simp
        rw [hw]
        exact hfin
      rcases ho'.slE with ⟨rfl, rfl, hoR⟩ | ⟨b, cap, rfl, ho2⟩
      · have hrun := run_append_nil (P := P) w T ty E i z hT hi hz ⟨b2, off2, Option.none⟩ rows2.length cap2 rows2.flatten hl2 hnews hpos (by simp at hm'; omega) (by simp at hb; omega)
        have := fresh 0 [] (fun r hr => by simp at hr) hoR (by simpa using hpos) (by simpa using hm)
        simp only [List.length_nil, Nat.zero_add, List.nil_append, List.flatten_nil, Array.empty_append] at this
        exact ⟨_, _, hrun, by simpa using this⟩
      · obtain ⟨sp, ho3, q1, q2, q3, q4⟩ := ho2.arrE
        have hl1 : rows.flatten.length = rows.length * i.size := flat_len q1
        by_cases hroom : rows.length + rows2.length ≤ cap
        · have hfit : rows.length * i.size + rows2.flatten.length ≤ (rows.flatten ++ sp).length := by rw [q4, hl2, ← Nat.add_mul]; exact Nat.mul_le_mul_right _ hroom
          have hrun := run_append_room (P := P) w T ty E i hT hi b rows.length cap _ ho3.blk.2 ⟨b2, off2, Option.none⟩ rows2.length cap2 rows2.flatten hl2 hnews hr.ok.one hroom (by simpa using hfit)
          refine ⟨_, _, hrun, ?_⟩
          have hlist : (rows.flatten ++ sp).take (rows.length * i.size) ++ rows2.flatten ++ (rows.flatten ++ sp).drop (rows.length * i.size + rows2.flatten.length) = (rows ++ rows2).flatten ++ sp.drop rows2.flatten.length := by
            rw [← hl1, List.take_left, List.drop_append, flat_app]
            simp
          have hput := setRow_own (cs' := (rows ++ rows2).flatten ++ sp.drop rows2.flatten.length) ho3
          rw [hlist]
          have := (hput.arrI (cap := cap) (q1.app hr.ok) (by simpa using hroom) q3 (by
            rw [flat_app]
            simp only [List.length_append, List.length_drop] at q4 hfit ⊢
            omega)).slI
          simpa using this
        · have hold : ∀ j u, rows.flatten[j]? = some u → w.cell? ((⟨b, 0, Option.none⟩ : Addr).add j) = some u := fun j u hu => by
            rw [addr_add, ho3.cell]
            simp only [Nat.zero_add]
            rw [List.getElem?_append_left (List.getElem?_eq_some_iff.1 hu).1]; exact hu
          have hrun := run_append_grow (P := P) w T ty E i z hT hi hz ⟨b, 0, Option.none⟩ rows.length cap rows.flatten hl1 hold ⟨b2, off2, Option.none⟩ rows2.length cap2 rows2.flatten hl2 hnews (by omega) (by omega) (growslice_fits (by omega) hb)
          have := fresh cap rows q1 (ho2.ent Ent.drop) (by omega) hm
          exact ⟨_, _, hrun, by simpa using this⟩

theorem x_append {sz bytes d : Nat} {rows rows2 : List (List Value)} (hT : P.underlying T = some (.slice E)) (hE : EL P E sz bytes) (hsz : 0 < sz) (he : Ent H (sl v E sz rows :: R)) (hr : Rd M H u sz rows2)
    (hb : (rows.length + rows2.length) * bytes ≤ 140737488355328) (hm : rows.length + rows2.length ≤ maxLen)
    (hop : o.op = .call { callee := .builtin .append, args := #[x, y], argTypes := #[T, T] }) (hgd : o.guard = Option.none) (hd : o.dst = some d) (hN : Nat.blt d N = true) (hx : evo env x = some (true, v)) (hy : evo env y = some (true, u))
    (h : ∀ v', Rr ((d, true, v') :: env) (sl v' E sz (rows ++ rows2) :: R)) : OpX P N M ops o env H Rr := fun a w Kc Q hf ho hK => by
  have hw : Region.wanted o (yielded ops a.tmps) = true := by simp [Region.wanted, hgd]
  rw [hw, if_pos rfl]
  obtain ⟨v', w', hrun, ho'⟩ := run_append_sl (ty := o.type) hT hE hsz ho he hr hb hm
  have hr : (execOp a.eval o).run P w = .ok (.value v') w' := by
    simp [execOp, hop, resolve, invoke, builtin, hf.ev hx rfl, hf.ev hy rfl, hrun]
  simp only [Oper.wp, hr, Oper.upon_value]
  exact hK _ _ _ _ (h v') (by rw [hd]; exact hf.put hN true v') ho'

end Go.Proofs.Ytmakdilmibjpbac
