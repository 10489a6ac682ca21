/- Arrays in blocks: elements at a number that is reckoned, whole loads and stores. -/
import Derived.Test.YtmakdilmibjpbabDel
import Derived.ChangeKeysEq
namespace Go.Proofs.Ytmakdilmibjpbab
open Go Go.RowKit
set_option linter.unusedVariables false

variable {P : Program} {F : Exit → Act → World → Prop} {N : Nat} {M : Amb} {env eb : Env} {H H' R : List HP} {a : Act} {w : World} {ops : Array Oper} {o : Oper} {rest : List Oper} {K : List KI}
variable {g gx gy gz : Bool} {x y z : Operand} {v v' u ret : Value} {T T2 E : TypeId} {k : IntKind} {m : Int}

theorem Tk.all : ∀ {cs : List Value} {n : Nat}, cs.length = n → Tk n cs cs
  | [], _, rfl => .z
  | c :: cs, _, rfl => .s (Tk.all (cs := cs) rfl)
theorem Tk.mid {cs : List Value} {n i : Nat} (h : i + n ≤ cs.length) : Tk n (cs.drop i) ((cs.drop i).take n) := by
  have : ∀ (l : List Value) (n : Nat), n ≤ l.length → Tk n l (l.take n) := by
    intro l
    induction l with
    | nil => intro n hn; simp at hn; subst hn; exact .z
    | cons c l ih =>
      intro n hn
      cases n with
      | zero => exact .z
      | succ n => exact .s (ih n (by simpa using hn))
  exact this _ _ (by simp; omega)
theorem Ins.whole : ∀ {cs vs : List Value}, cs.length = vs.length → Ins cs 0 vs vs
  | [], [], _ => .z
  | _ :: cs, _ :: vs, h => .p (Ins.whole (cs := cs) (by simpa using h))
  | [], _ :: _, h => by simp at h
  | _ :: _, [], h => by simp at h
theorem Ins.at' : ∀ {cs : List Value} {i : Nat} {v : Value}, i < cs.length → Ins cs i [v] (cs.set i v)
  | _ :: _, 0, _, _ => .p .z
  | _ :: cs, i + 1, _, h => .s (Ins.at' (cs := cs) (by simpa using h))
  | [], _, _, h => by simp at h
theorem Ins.atm {α : Type} {f : α → Value} {l : List α} {i : Nat} {x : α} (h : i < l.length) : Ins (l.map f) i [f x] ((l.set i x).map f) := by
  rw [List.map_set]; exact Ins.at' (by simpa using h)
/-- An element of an array that lies in a block. -/
theorem pv_aidx {sz b off i nn : Nat} (hT : P.underlying T = some (.array nn E)) (hE : SizeIs P E sz) (hn : g = true → m = (i : Int) ∧ i < nn) (hg : Gd ops env o g) (hop : o.op = .indexAddr T x y)
    (hx : evo env x = some (gx, .pointer (some ⟨b, off, Option.none⟩))) (hy : evo env y = some (gy, .int k m)) (hi : g = true → gx = true ∧ gy = true) : PV P ops o env g (.pointer (some ⟨b, off + i * sz, Option.none⟩)) :=
  fun _ _ hf => ⟨hg.wanted hf, fun e w => by
    obtain ⟨rfl, hlt⟩ := hn e
    obtain ⟨inf, h3, h4⟩ := hE
    simp [execOp, hop, hf.ev hx (hi e).1, hf.ev hy (hi e).2, Instr.indexAt, asIntOf, run_und hT, sizeOf, run_info h3, h4, hlt, addr_add, Instr.sureAddr]⟩
theorem getDs {α : Type} {l : List α} {i : Nat} {d : α} (h : i < l.length) : l[i]? = some (l.getD i d) := by
  rw [List.getD_eq_getElem?_getD, List.getElem?_eq_getElem h]; rfl
/-- A cell of an array whose element was reckoned. -/
theorem q_ldci {t b i j : Nat} {cs : List Value} {T : TypeId} {R : List HP} (tc : tcB P t = true) (hg : Gd ops env o g) (hop : o.op = .load t x) (hx : evo env x = some (gx, .pointer (some ⟨b, j, Option.none⟩))) (hi : g = true → gx = true) [s : SelB H b cs T R] (hj : j = i) (hv : cs[i]? = some v) :
    RV P M ops o env H g v := by subst hj; exact rv_ldc tc (CellAt.blk s.ent hv) hg hop hx hi

theorem Ins.gen : ∀ {cs us : List Value} {off : Nat}, off + us.length ≤ cs.length → Ins cs off us (cs.take off ++ us ++ cs.drop (off + us.length))
  | cs, [], 0, _ => by simpa using Ins.z (l := cs)
  | [], _ :: _, 0, h => by simp at h
  | c :: cs, u :: us, 0, h => by
    have := Ins.gen (cs := cs) (us := us) (off := 0) (by simpa using h)
    simp only [List.take_zero, List.nil_append, Nat.zero_add] at this
    simpa [Nat.add_comm] using Ins.p (c := c) (u := u) this
  | [], us, off + 1, h => by simp at h
  | c :: cs, us, off + 1, h => by
    have := Ins.gen (cs := cs) (us := us) (off := off) (by simp at h; omega)
    have e : off + 1 + us.length = (off + us.length) + 1 := by omega
    rw [e]
    exact Ins.s (c := c) this
/-- A slice of two elements. -/
theorem x_bslice2 {Rr : Env → List HP → Prop} {sz d : Nat} {zl us ws : List Value} (hT : P.underlying T = some (.slice E)) (hE : SizeIs P E sz) (zr : ZR P E zl) (hzl : Nat.beq zl.length sz = true) (hx : evo env x = some (true, v)) (hu : v.cells = us.toArray) (hl : us.length = sz) (h1 : us.all (·.oneCell') = true)
    (hx2 : evo env y = some (true, v')) (hu2 : v'.cells = ws.toArray) (hl2 : ws.length = sz) (h12 : ws.all (·.oneCell') = true) (hsz : Nat.ble sz 8388608 = true) (hN : Nat.blt d N = true)
    (hop : o.op = .buildSlice T 2 #[(0, x), (1, y)]) (hgd : o.guard = Option.none) (hd : o.dst = some d)
    (h : ∀ b, Rr ((d, true, .slice (some ⟨b, 0, Option.none⟩) 2 2) :: env) (arr b E sz [us, ws] 2 :: H)) : OpX P N M ops o env H Rr := by
  have hz : zl.length = sz := Nat.eq_of_beq_eq_true hzl
  have hs : sz ≤ 8388608 := Nat.le_of_ble_eq_true hsz
  have hzz : ((List.range (2 * sz)).map (fun i => zl.toArray[i % zl.length]!)).length = 2 * sz := by simp
  generalize hzs : (List.range (2 * sz)).map (fun i => zl.toArray[i % zl.length]!) = zs at hzz
  have i1 := Ins.gen (cs := zs) (us := us) (off := 0) (by omega)
  have i2 := Ins.gen (cs := zs.take 0 ++ us ++ zs.drop (0 + us.length)) (us := ws) (off := sz) (by simp; omega)
  have e : (zs.take 0 ++ us ++ zs.drop (0 + us.length)).take sz ++ ws ++ (zs.take 0 ++ us ++ zs.drop (0 + us.length)).drop (sz + ws.length) = [us, ws].flatten := by
    simp only [List.take_zero, List.nil_append, Nat.zero_add, List.flatten_cons, List.flatten_nil, List.append_nil]
    rw [← hl, List.take_left, List.drop_append]
    have : zs.drop us.length = zs.drop us.length := rfl
    rw [List.drop_eq_nil_of_le (by omega), List.drop_drop, List.drop_eq_nil_of_le (by omega)]
    simp
  rw [e] at i2
  refine x_bslice (nn := 2) (ps := [(0, x), (1, y)]) (zl := zl) (zs := zs) (cs := [us, ws].flatten) (rows := [us, ws]) [(0, sz), (sz, sz)] hT hE zr (by omega) (by simp [maxLen]) (fun i => ?_) rfl hzs hop hgd hd hN
    (.c hx (fun _ => rfl) rfl hu hl i1 (.c hx2 (fun _ => rfl) rfl hu2 hl2 i2 .n)) rfl (fun r hr => ?_) rfl h
  · match i with
    | 0 => simp
    | 1 => simp
    | i + 2 => simp
  · simp at hr
    rcases hr with rfl | rfl
    · exact ⟨hl, fun c hc => List.all_eq_true.1 h1 c hc⟩
    · exact ⟨hl2, fun c hc => List.all_eq_true.1 h12 c hc⟩
theorem p_bslice2 {ty : TypeId} {ps : String} {af : Array Edge} {sz d : Nat} {zl us ws : List Value} (hT : P.underlying T = some (.slice E)) (hE : SizeIs P E sz) (zr : ZR P E zl) (hzl : Nat.beq zl.length sz = true) (hx : evo env x = some (true, v)) (hu : v.cells = us.toArray) (hl : us.length = sz) (h1 : us.all (·.oneCell') = true)
    (hx2 : evo env y = some (true, v')) (hu2 : v'.cells = ws.toArray) (hl2 : ws.length = sz) (h12 : ws.all (·.oneCell') = true) (hsz : Nat.ble sz 8388608 = true) (hN : Nat.blt d N = true)
    (h : ∀ b, Ops P F N M K ops rest ((d, true, .slice (some ⟨b, 0, Option.none⟩) 2 2) :: env) (arr b E sz [us, ws] 2 :: H)) : Ops P F N M K ops (⟨some d, .buildSlice T 2 #[(0, x), (1, y)], ty, ps, af, Option.none⟩ :: rest) env H :=
  l_op (x_bslice2 hT hE zr hzl hx hu hl h1 hx2 hu2 hl2 h12 hsz hN rfl rfl rfl h)
theorem Ins.atm' {α : Type} {f : α → Value} {l : List α} {i j : Nat} {x : α} (e : j = i) (h : i < l.length) : Ins (l.map f) j [f x] ((l.set i x).map f) := by subst e; exact Ins.atm h

/-! ### Arrays that are built; a field of a value; arrays compared -/
inductive FillA (sz : Nat) (env : Env) (g : Bool) : List Value → List (Nat × Operand) → List Value → Prop
  | n {cs : List Value} : FillA sz env g cs [] cs
  | c {cs cs1 cs2 us : List Value} {i : Nat} {x : Operand} {ps : List (Nat × Operand)} {v : Value} {gx : Bool} (hx : evo env x = some (gx, v)) (hgx : g = true → gx = true) (hu : v.cells = us.toArray) (hl : us.length = sz) (hi : Ins cs (i * sz) us cs1)
      (k : FillA sz env g cs1 ps cs2) : FillA sz env g cs ((i, x) :: ps) cs2
theorem FillA.run {sz : Nat} {cs cs' : List Value} {ps : List (Nat × Operand)} (h : FillA sz env g cs ps cs') (hf : Fits N env a) (hg : g = true) :
    Instr.fill (fun i => some (i * sz, sz)) cs.toArray (ps.map fun p => (p.1, a.eval p.2)) = some cs'.toArray := by
  induction h with
  | n => simp [Instr.fill]
  | c hx hgx hu hl hi k ih =>
    rename_i cs cs1 cs2 us i x ps v gx
    obtain ⟨h1, h2⟩ := hi.eq
    have hev := hf.ev hx (hgx hg)
    simp only [List.map_cons, Instr.fill]
    rw [hev, hu]
    simp only [List.size_toArray, hl, ne_eq, not_true_eq_false, decide_false, Bool.false_or, decide_eq_true_eq]
    rw [if_neg (by omega)]
    rw [foldl_ins us cs _ h1, ← h2]
    exact ih
theorem pv_buildA {sz nn : Nat} {zs cs' : List Value} {ps : List (Nat × Operand)} (zr : ZR P T zs) (hT : P.underlying T = some (.array nn E)) (hE : SizeIs P E sz) (hg : Gd ops env o g) (hop : o.op = .build T ps.toArray) (hfl : FillA sz env g zs ps cs') : PV P ops o env g (.agg cs'.toArray) :=
  fun _ a hf => ⟨hg.wanted hf, fun e w => by
    obtain ⟨inf, h3, h4⟩ := hE
    unfold ZR at zr
    cases hi : P.info? T with
    | none => simp [hi] at zr
    | some i =>
      cases hz : i.zero with
      | none => simp [hi, hz] at zr
      | some zv =>
        simp [hi, hz] at zr
        have hzc : zv.cells = zs.toArray := by rw [← zr]
        have hfr := hfl.run hf e
        simp only [execOp, hop, Instr.build, Sem.run_bind, zeroValue, run_info hi, Result.andThen_ok, hz, Sem.run_pure, run_und hT, sizeOf, run_info h3, h4, hzc]
        simp only [List.map_toArray]
        rw [hfr]
        simp⟩
theorem pv_field {fs : Array Field} {fld : Field} {cs : List Value} {i : Nat} (hT : P.underlying T = some (.struct fs)) (hf : fs[i]? = some fld) (tc : tcB P fld.type = true) (hg : Gd ops env o g) (hop : o.op = .field T x i)
    (hx : evo env x = some (gx, .agg cs.toArray)) (hv : cs[fld.offset]? = some v) (hi : g = true → gx = true) : PV P ops o env g v :=
  fun _ _ hft => ⟨hg.wanted hft, fun e w => by
    have ha := (run_isAgg_no tc w).1
    simp [execOp, hop, Instr.field, hft.ev hx (hi e), run_und hT, hf, asAgg, part, ha, hv]⟩
theorem eqItems_all {d e sz : Nat} {xs ys : Array Value} (f : Nat → Bool) (w : World) : ∀ is : List Nat, (∀ i ∈ is, ∃ a b, (part e xs (i * sz)).run P w = .ok a w ∧ (part e ys (i * sz)).run P w = .ok b w ∧ (Op.equalIn d e a b).run P w = .ok (f i) w) →
    (Op.eqItems d e sz xs ys is).run P w = .ok (is.all f) w
  | [], _ => by simp [Op.eqItems]
  | i :: is, h => by
    obtain ⟨a, b, h1, h2, h3⟩ := h i (by simp)
    have ih := eqItems_all (d := d) (e := e) (sz := sz) (xs := xs) (ys := ys) f w is (fun j hj => h j (by simp [hj]))
    simp only [Op.eqItems, Sem.run_bind, h1, h2, h3, Result.andThen_ok, List.all_cons]
    cases hfi : f i
    · simp
    · simp [ih]
theorem ints_eq {n : Nat} {xs ys : List Int} (hx : xs.length = n) (hy : ys.length = n) : ((List.range n).all fun i => decide (xs.getD i 0 = ys.getD i 0)) = decide (xs = ys) := by
  rw [Bool.eq_iff_iff, List.all_eq_true]
  simp only [List.mem_range, decide_eq_true_eq]
  constructor
  · intro h
    refine List.ext_getElem? fun i => ?_
    rcases Nat.lt_or_ge i n with hi | hi
    · have := h i hi
      rw [List.getD_eq_getElem?_getD, List.getD_eq_getElem?_getD] at this
      rw [List.getElem?_eq_getElem (by omega), List.getElem?_eq_getElem (by omega)] at this ⊢
      simpa using this
    · rw [List.getElem?_eq_none (by omega), List.getElem?_eq_none (by omega)]
  · rintro rfl i _; rfl
theorem EqT.ints {n : Nat} {inf : TypeInfo} {xs ys : List Int} (hT : P.underlying T = some (.array n E)) (hi : P.info? E = some inf) (hE : P.underlying E = some (.int .i64)) (hc : P.cellsOf E = 1) (tc : tcB P E = true) (hgd : P.eqGuardType P.depth T = false) (hx : xs.length = n) (hy : ys.length = n) :
    EqT P T (xs.map fun n => .int .i64 n) (ys.map fun n => .int .i64 n) (decide (xs = ys)) :=
  ⟨hgd, fun w => by
    rw [show (10000 : Nat) = 9999 + 1 from rfl, run_equalIn_array w 9999 _ _ hT hi, hc, ← ints_eq hx hy]
    refine eqItems_all _ w _ fun i hi => ?_
    have hin : i < n := by simpa using hi
    have ha := (run_isAgg_no tc w).1
    refine ⟨.int .i64 (xs.getD i 0), .int .i64 (ys.getD i 0), ?_, ?_, ?_⟩
    · simp only [part, Sem.run_bind, ha, Result.andThen_ok, Bool.false_eq_true, if_false, Nat.mul_one]
      have : (xs.map fun n => Value.int .i64 n).toArray[i]? = some (.int .i64 (xs.getD i 0)) := by
        simp only [List.getElem?_toArray, List.getElem?_map, getDs (l := xs) (d := 0) (by omega : i < xs.length), Option.map_some]
      rw [this]; rfl
    · simp only [part, Sem.run_bind, ha, Result.andThen_ok, Bool.false_eq_true, if_false, Nat.mul_one]
      have : (ys.map fun n => Value.int .i64 n).toArray[i]? = some (.int .i64 (ys.getD i 0)) := by
        simp only [List.getElem?_toArray, List.getElem?_map, getDs (l := ys) (d := 0) (by omega : i < ys.length), Option.map_some]
      rw [this]; rfl
    · rw [show (9999 : Nat) = 9998 + 1 from rfl, run_equalIn_int w 9998 _ _ _ _ _ hE]; rfl⟩

end Go.Proofs.Ytmakdilmibjpbab
