/- Arrays in blocks: elements at a number that is reckoned, whole loads and stores. Regions whose order is drawn: several effects that may come up in any order. Short names for what the printed walks say most often. Regions whose order is drawn: a variable that is made, beside two calls that make something new, one behind the other. A list of parts that lie each in a block of its own. Stores into an element of a slice of one's own; slices that are made. Functions as values, elements of arrays as values, parts that hide two or three values. -/
import Derived.Test.YtmakdilmibjpbacGreatDel
import Derived.ChangeKeysEq
import Derived.Laws.MakeOwn
namespace Go.Proofs.YtmakdilmibjpbacGreat
open Go Go.RowKit
set_option linter.unusedVariables false

variable {P : Program} {F : Exit → Act → World → Prop} {N : Nat} {M : Amb} {env eb : Env} {H H' R : List HP} {a : Act} {w : World} {ops : Array Oper} {o : Oper} {rest : List Oper} {K : List KI}
variable {g gx gy gz : Bool} {x y z : Operand} {v v' u ret : Value} {T T2 E : TypeId} {k : IntKind} {m : Int}

theorem Tk.all : ∀ {cs : List Value} {n : Nat}, cs.length = n → Tk n cs cs
  | [], _, rfl => .z
  | c :: cs, _, rfl => .s (Tk.all (cs := cs) rfl)
theorem Ins.whole : ∀ {cs vs : List Value}, cs.length = vs.length → Ins cs 0 vs vs
  | [], [], _ => .z
  | _ :: cs, _ :: vs, h => .p (Ins.whole (cs := cs) (by simpa using h))
  | [], _ :: _, h => by simp at h
  | _ :: _, [], h => by simp at h
theorem Ins.at' : ∀ {cs : List Value} {i : Nat} {v : Value}, i < cs.length → Ins cs i [v] (cs.set i v)
  | _ :: _, 0, _, _ => .p .z
  | _ :: cs, i + 1, _, h => .s (Ins.at' (cs := cs) (by simpa using h))
  | [], _, _, h => by simp at h
theorem Ins.atm {α : Type} {f : α → Value} {l : List α} {i : Nat} {x : α} (h : i < l.length) : Ins (l.map f) i [f x] ((l.set i x).map f) := by
  rw [List.map_set]; exact Ins.at' (by simpa using h)
/-- An element of an array that lies in a block. -/
theorem pv_aidx {sz b off i nn : Nat} (hT : P.underlying T = some (.array nn E)) (hE : SizeIs P E sz) (hn : g = true → m = (i : Int) ∧ i < nn) (hg : Gd ops env o g) (hop : o.op = .indexAddr T x y)
    (hx : evo env x = some (gx, .pointer (some ⟨b, off, Option.none⟩))) (hy : evo env y = some (gy, .int k m)) (hi : g = true → gx = true ∧ gy = true) : PV P ops o env g (.pointer (some ⟨b, off + i * sz, Option.none⟩)) :=
  fun _ _ hf => ⟨hg.wanted hf, fun e w => by
    obtain ⟨rfl, hlt⟩ := hn e
    obtain ⟨inf, h3, h4⟩ := hE
    simp [execOp, hop, hf.ev hx (hi e).1, hf.ev hy (hi e).2, Instr.indexAt, asIntOf, run_und hT, sizeOf, run_info h3, h4, hlt, addr_add, Instr.sureAddr]⟩
theorem getDs {α : Type} {l : List α} {i : Nat} {d : α} (h : i < l.length) : l[i]? = some (l.getD i d) := by
  rw [List.getD_eq_getElem?_getD, List.getElem?_eq_getElem h]; rfl
/-- A cell of an array whose element was reckoned. -/
theorem q_ldci {t b i j : Nat} {cs : List Value} {T : TypeId} {R : List HP} (tc : tcB P t = true) (hg : Gd ops env o g) (hop : o.op = .load t x) (hx : evo env x = some (gx, .pointer (some ⟨b, j, Option.none⟩))) (hi : g = true → gx = true) [s : SelB H b cs T R] (hj : j = i) (hv : cs[i]? = some v) :
    RV P M ops o env H g v := by subst hj; exact rv_ldc tc (CellAt.blk s.ent hv) hg hop hx hi

theorem Ins.gen : ∀ {cs us : List Value} {off : Nat}, off + us.length ≤ cs.length → Ins cs off us (cs.take off ++ us ++ cs.drop (off + us.length))
  | cs, [], 0, _ => by simpa using Ins.z (l := cs)
  | [], _ :: _, 0, h => by simp at h
  | c :: cs, u :: us, 0, h => by
    have := Ins.gen (cs := cs) (us := us) (off := 0) (by simpa using h)
    simp only [List.take_zero, List.nil_append, Nat.zero_add] at this
    simpa [Nat.add_comm] using Ins.p (c := c) (u := u) this
  | [], us, off + 1, h => by simp at h
  | c :: cs, us, off + 1, h => by
    have := Ins.gen (cs := cs) (us := us) (off := off) (by simp at h; omega)
    have e : off + 1 + us.length = (off + us.length) + 1 := by omega
    rw [e]
    exact Ins.s (c := c) this
/-- A slice of two elements. -/
theorem x_bslice2 {Rr : Env → List HP → Prop} {sz d : Nat} {zl us ws : List Value} (hT : P.underlying T = some (.slice E)) (hE : SizeIs P E sz) (zr : ZR P E zl) (hzl : Nat.beq zl.length sz = true) (hx : evo env x = some (true, v)) (hu : v.cells = us.toArray) (hl : us.length = sz) (h1 : us.all (·.oneCell') = true)
    (hx2 : evo env y = some (true, v')) (hu2 : v'.cells = ws.toArray) (hl2 : ws.length = sz) (h12 : ws.all (·.oneCell') = true) (hsz : Nat.ble sz 8388608 = true) (hN : Nat.blt d N = true)
    (hop : o.op = .buildSlice T 2 #[(0, x), (1, y)]) (hgd : o.guard = Option.none) (hd : o.dst = some d)
    (h : ∀ b, Rr ((d, true, .slice (some ⟨b, 0, Option.none⟩) 2 2) :: env) (arr b E sz [us, ws] 2 :: H)) : OpX P N M ops o env H Rr := by
  have hz : zl.length = sz := Nat.eq_of_beq_eq_true hzl
  have hs : sz ≤ 8388608 := Nat.le_of_ble_eq_true hsz
  have hzz : ((List.range (2 * sz)).map (fun i => zl.toArray[i % zl.length]!)).length = 2 * sz := by simp
  generalize hzs : (List.range (2 * sz)).map (fun i => zl.toArray[i % zl.length]!) = zs at hzz
  have i1 := Ins.gen (cs := zs) (us := us) (off := 0) (by omega)
  have i2 := Ins.gen (cs := zs.take 0 ++ us ++ zs.drop (0 + us.length)) (us := ws) (off := sz) (by simp; omega)
  have e : (zs.take 0 ++ us ++ zs.drop (0 + us.length)).take sz ++ ws ++ (zs.take 0 ++ us ++ zs.drop (0 + us.length)).drop (sz + ws.length) = [us, ws].flatten := by
    simp only [List.take_zero, List.nil_append, Nat.zero_add, List.flatten_cons, List.flatten_nil, List.append_nil]
    rw [← hl, List.take_left, List.drop_append]
    have : zs.drop us.length = zs.drop us.length := rfl
    rw [List.drop_eq_nil_of_le (by omega), List.drop_drop, List.drop_eq_nil_of_le (by omega)]
    simp
  rw [e] at i2
  refine x_bslice (nn := 2) (ps := [(0, x), (1, y)]) (zl := zl) (zs := zs) (cs := [us, ws].flatten) (rows := [us, ws]) [(0, sz), (sz, sz)] hT hE zr (by omega) (by simp [maxLen]) (fun i => ?_) rfl hzs hop hgd hd hN
    (.c hx (fun _ => rfl) rfl hu hl i1 (.c hx2 (fun _ => rfl) rfl hu2 hl2 i2 .n)) rfl (fun r hr => ?_) rfl h
  · match i with
    | 0 => simp
    | 1 => simp
    | i + 2 => simp
  · simp at hr
    rcases hr with rfl | rfl
    · exact ⟨hl, fun c hc => List.all_eq_true.1 h1 c hc⟩
    · exact ⟨hl2, fun c hc => List.all_eq_true.1 h12 c hc⟩
theorem p_bslice2 {ty : TypeId} {ps : String} {af : Array Edge} {sz d : Nat} {zl us ws : List Value} (hT : P.underlying T = some (.slice E)) (hE : SizeIs P E sz) (zr : ZR P E zl) (hzl : Nat.beq zl.length sz = true) (hx : evo env x = some (true, v)) (hu : v.cells = us.toArray) (hl : us.length = sz) (h1 : us.all (·.oneCell') = true)
    (hx2 : evo env y = some (true, v')) (hu2 : v'.cells = ws.toArray) (hl2 : ws.length = sz) (h12 : ws.all (·.oneCell') = true) (hsz : Nat.ble sz 8388608 = true) (hN : Nat.blt d N = true)
    (h : ∀ b, Ops P F N M K ops rest ((d, true, .slice (some ⟨b, 0, Option.none⟩) 2 2) :: env) (arr b E sz [us, ws] 2 :: H)) : Ops P F N M K ops (⟨some d, .buildSlice T 2 #[(0, x), (1, y)], ty, ps, af, Option.none⟩ :: rest) env H :=
  l_op (x_bslice2 hT hE zr hzl hx hu hl h1 hx2 hu2 hl2 h12 hsz hN rfl rfl rfl h)
theorem Ins.atm' {α : Type} {f : α → Value} {l : List α} {i j : Nat} {x : α} (e : j = i) (h : i < l.length) : Ins (l.map f) j [f x] ((l.set i x).map f) := by subst e; exact Ins.atm h

/-! ### Arrays that are built; a field of a value; arrays compared -/
inductive FillA (sz : Nat) (env : Env) (g : Bool) : List Value → List (Nat × Operand) → List Value → Prop
  | n {cs : List Value} : FillA sz env g cs [] cs
  | c {cs cs1 cs2 us : List Value} {i : Nat} {x : Operand} {ps : List (Nat × Operand)} {v : Value} {gx : Bool} (hx : evo env x = some (gx, v)) (hgx : g = true → gx = true) (hu : v.cells = us.toArray) (hl : us.length = sz) (hi : Ins cs (i * sz) us cs1)
      (k : FillA sz env g cs1 ps cs2) : FillA sz env g cs ((i, x) :: ps) cs2
theorem FillA.run {sz : Nat} {cs cs' : List Value} {ps : List (Nat × Operand)} (h : FillA sz env g cs ps cs') (hf : Fits N env a) (hg : g = true) :
    Instr.fill (fun i => some (i * sz, sz)) cs.toArray (ps.map fun p => (p.1, a.eval p.2)) = some cs'.toArray := by
  induction h with
  | n => simp [Instr.fill]
  | c hx hgx hu hl hi k ih =>
    rename_i cs cs1 cs2 us i x ps v gx
    obtain ⟨h1, h2⟩ := hi.eq
    have hev := hf.ev hx (hgx hg)
    simp only [List.map_cons, Instr.fill]
    rw [hev, hu]
    simp only [List.size_toArray, hl, ne_eq, not_true_eq_false, decide_false, Bool.false_or, decide_eq_true_eq]
    rw [if_neg (by omega)]
    rw [foldl_ins us cs _ h1, ← h2]
    exact ih
theorem pv_buildA {sz nn : Nat} {zs cs' : List Value} {ps : List (Nat × Operand)} (zr : ZR P T zs) (hT : P.underlying T = some (.array nn E)) (hE : SizeIs P E sz) (hg : Gd ops env o g) (hop : o.op = .build T ps.toArray) (hfl : FillA sz env g zs ps cs') : PV P ops o env g (.agg cs'.toArray) :=
  fun _ a hf => ⟨hg.wanted hf, fun e w => by
    obtain ⟨inf, h3, h4⟩ := hE
    unfold ZR at zr
    cases hi : P.info? T with
    | none => simp [hi] at zr
    | some i =>
      cases hz : i.zero with
      | none => simp [hi, hz] at zr
      | some zv =>
        simp [hi, hz] at zr
        have hzc : zv.cells = zs.toArray := by rw [← zr]
        have hfr := hfl.run hf e
        simp only [execOp, hop, Instr.build, Sem.run_bind, zeroValue, run_info hi, Result.andThen_ok, hz, Sem.run_pure, run_und hT, sizeOf, run_info h3, h4, hzc]
        simp only [List.map_toArray]
        rw [hfr]
        simp⟩
theorem eqItems_all {d e sz : Nat} {xs ys : Array Value} (f : Nat → Bool) (w : World) : ∀ is : List Nat, (∀ i ∈ is, ∃ a b, (part e xs (i * sz)).run P w = .ok a w ∧ (part e ys (i * sz)).run P w = .ok b w ∧ (Op.equalIn d e a b).run P w = .ok (f i) w) →
    (Op.eqItems d e sz xs ys is).run P w = .ok (is.all f) w
  | [], _ => by simp [Op.eqItems]
  | i :: is, h => by
    obtain ⟨a, b, h1, h2, h3⟩ := h i (by simp)
    have ih := eqItems_all (d := d) (e := e) (sz := sz) (xs := xs) (ys := ys) f w is (fun j hj => h j (by simp [hj]))
    simp only [Op.eqItems, Sem.run_bind, h1, h2, h3, Result.andThen_ok, List.all_cons]
    cases hfi : f i
    · simp
    · simp [ih]
theorem ints_eq {n : Nat} {xs ys : List Int} (hx : xs.length = n) (hy : ys.length = n) : ((List.range n).all fun i => decide (xs.getD i 0 = ys.getD i 0)) = decide (xs = ys) := by
  rw [Bool.eq_iff_iff, List.all_eq_true]
  simp only [List.mem_range, decide_eq_true_eq]
  constructor
  · intro h
    refine List.ext_getElem? fun i => ?_
    rcases Nat.lt_or_ge i n with hi | hi
    · have := h i hi
      rw [List.getD_eq_getElem?_getD, List.getD_eq_getElem?_getD] at this
      rw [List.getElem?_eq_getElem (by omega), List.getElem?_eq_getElem (by omega)] at this ⊢
      simpa using this
    · rw [List.getElem?_eq_none (by omega), List.getElem?_eq_none (by omega)]
  · rintro rfl i _; rfl
theorem EqT.ints {n : Nat} {inf : TypeInfo} {xs ys : List Int} (hT : P.underlying T = some (.array n E)) (hi : P.info? E = some inf) (hE : P.underlying E = some (.int .i64)) (hc : P.cellsOf E = 1) (tc : tcB P E = true) (hgd : P.eqGuardType P.depth T = false) (hx : xs.length = n) (hy : ys.length = n) :
    EqT P T (xs.map fun n => .int .i64 n) (ys.map fun n => .int .i64 n) (decide (xs = ys)) :=
  ⟨hgd, fun w => by
    rw [show (10000 : Nat) = 9999 + 1 from rfl, run_equalIn_array w 9999 _ _ hT hi, hc, ← ints_eq hx hy]
    refine eqItems_all _ w _ fun i hi => ?_
    have hin : i < n := by simpa using hi
    have ha := (run_isAgg_no tc w).1
    refine ⟨.int .i64 (xs.getD i 0), .int .i64 (ys.getD i 0), ?_, ?_, ?_⟩
    · simp only [part, Sem.run_bind, ha, Result.andThen_ok, Bool.false_eq_true, if_false, Nat.mul_one]
      have : (xs.map fun n => Value.int .i64 n).toArray[i]? = some (.int .i64 (xs.getD i 0)) := by
        simp only [List.getElem?_toArray, List.getElem?_map, getDs (l := xs) (d := 0) (by omega : i < xs.length), Option.map_some]
      rw [this]; rfl
    · simp only [part, Sem.run_bind, ha, Result.andThen_ok, Bool.false_eq_true, if_false, Nat.mul_one]
      have : (ys.map fun n => Value.int .i64 n).toArray[i]? = some (.int .i64 (ys.getD i 0)) := by
        simp only [List.getElem?_toArray, List.getElem?_map, getDs (l := ys) (d := 0) (by omega : i < ys.length), Option.map_some]
      rw [this]; rfl
    · rw [show (9999 : Nat) = 9998 + 1 from rfl, run_equalIn_int w 9998 _ _ _ _ _ hE]; rfl⟩

end Go.Proofs.YtmakdilmibjpbacGreat

namespace Go.Proofs.YtmakdilmibjpbacGreat
open Go Go.RowKit
set_option linter.unusedVariables false

variable {P : Program} {F : Exit → Act → World → Prop} {N : Nat} {M : Amb} {env eb : Env} {H H' R : List HP} {a : Act} {w : World} {ops : Array Oper} {o : Oper} {rest : List Oper} {K : List KI}
variable {E0 : Env} {Hq He : List HP} {p p' : Plan} {eff eff' : List Nat}

def restC (ops : Array Oper) (p : Plan) (cs : List Nat) : Bool := (List.range ops.size).all fun i => cs.contains i || (getP p i).isSome || cs.any fun e => (onB ops i e || match ops[i]? with | some o => (reachL ops i (onsOf o)).contains e | Option.none => false)
/-- What one effect may do next. -/
def HX (P : Program) (F : Exit → Act → World → Prop) (N : Nat) (M : Amb) (K : List KI) (ops : Array Oper) (E0 : Env) (Hq : List HP) (p : Plan) (eff : List Nat) (He : List HP) (i : Nat) (o : Oper) (l : List Src) : Prop :=
  ∀ a w (Kc : Act → World → Prop) (Q : Exit → Act → World → Prop), Fits N (srcEnv p E0 l) a → Own M (He ++ Hq) w →
      (∀ x He' w', entOk N o x → Own M (He' ++ Hq) w' → QM P F N M K ops E0 Hq ((i, x) :: p) (i :: eff) He' → Kc (putE a x) w') → o.wp P a w Kc Q
theorem qm_any {cs : List Nat} {i0 : Nat} (h0 : i0 ∈ cs) (hac : acB ops = true) (hds : dstB ops = true) (hrest : restC ops p cs = true)
    (hc : ∀ c ∈ cs, ∃ o l, ops[c]? = some o ∧ getP p c = Option.none ∧ srcB ops c l = true ∧ GdW ops (srcEnv p E0 l) o ∧ HX P F N M K ops E0 Hq p eff He c o l) : QM P F N M K ops E0 Hq p eff He := by
  intro hQ hD fuel
  obtain ⟨oi, li, hi, hn, _⟩ := hc i0 h0
  have hun : ∀ c ∈ cs, ∀ (listed : Array Bool) (a : Act), St N ops E0 p listed a → listed.getD c false = false := fun c hcm listed a s => by
    obtain ⟨_, _, _, hnc, _⟩ := hc c hcm
    cases hl : listed.getD c false with
    | true => obtain ⟨x, hx, _⟩ := s.ent c hl; rw [hnc] at hx; cases hx
    | false => rfl
  induction fuel with
  | zero =>
    intro listed a w s hu he ho
    exfalso
    have hlt := (Array.getElem?_eq_some_iff.1 hi).1
    have hl := hun i0 h0 listed a s
    have hni : listed.getD i0 true = false := by
      have : i0 < listed.size := by rw [s.lsz]; exact hlt
      simp [this] at hl ⊢; exact hl
    have := unl_set hlt hni
    omega
  | succ fuel ih =>
    intro listed a w s hu he ho
    have hlt := (Array.getElem?_eq_some_iff.1 hi).1
    have hnl := hun i0 h0 listed a s
    have hni : listed.getD i0 true = false := by
      have : i0 < listed.size := by rw [s.lsz]; exact hlt
      simp [this] at hnl ⊢; exact hnl
    refine ⟨fun hnil => absurd hnil (ready_ne hac s.lsz i0 hlt hni), fun j hj => ?_⟩
    obtain ⟨h0, oj, hoj, hon⟩ := ready_lt hj
    have hjlt := (Array.getElem?_eq_some_iff.1 hoj).1
    by_cases hji : j ∈ cs
    · obtain ⟨o, l, hoj', hnj, hs, hg, hx⟩ := hc j hji
      rw [hoj] at hoj'; cases hoj'
      have hfit := s.fits hj hs
      have hw : Region.wanted oj (yielded ops a.tmps) = true := hg.wtd hfit
      unfold wpOp
      simp only [hoj]
      rw [hw, if_pos rfl]
      refine .inl (hx a w _ _ hfit ho fun x He' w' hxd ho' hqm => ?_)
      have hxm : oj.dst = x.map (·.1) := by
        cases x with
        | none => exact hxd
        | some e => exact hxd.1
      have hst := St.step (x := x) hds (s.cons (e := x) hnj) hj hoj (by simp [getP]) (fun q hq d' g' v' hq' => by
        rcases getP_cons' hq' with ⟨rfl, h⟩ | h
        · exact ⟨oj, hoj, by rw [hxm, ← h]; rfl⟩
        · exact hD q _ h) hxd
      refine hqm (fun q y hq => ?_) (fun q y hq' => ?_) fuel _ _ w' hst (by have := unl_set hjlt h0; omega) (fun q hq => ?_) ho'
      · rcases getP_cons' hq with ⟨rfl, _⟩ | hq
        · exact .inl (by simp)
        · rcases hQ q y hq with h | h
          · exact .inl (by simp [h])
          · exact .inr (h.cons hnj)
      · rcases getP_cons' hq' with ⟨rfl, rfl⟩ | h
        · exact ⟨oj, hoj, hxm⟩
        · exact hD q y h
      · rw [getD_set (by rw [s.lsz]; exact hjlt)]
        rcases List.mem_cons.1 hq with rfl | hq
        · exact .inl rfl
        · exact .inr (he q hq)
    · cases hp : getP p j with
      | none =>
        exfalso
        have := List.all_eq_true.1 hrest j (by simpa using hjlt)
        rw [hp, Option.isSome_none, Bool.or_false] at this
        rcases Bool.or_eq_true_iff.1 this with h | h
        · exact hji (List.contains_iff_mem.1 h)
        · obtain ⟨e, hem, h⟩ := List.any_eq_true.1 h
          have hnl := hun e hem listed a s
          rw [rest_ok s.down hon h] at hnl; cases hnl
      | some x =>
        rcases hQ j x hp with h | h
        · have := he j h
          rw [not_listed h0] at this; cases this
        · refine run_quiet hds hD s hj h ho fun a' w' s' ho' => ?_
          refine ih _ a' w' s' (by have := unl_set hjlt h0; omega) (fun q hq => ?_) ho'
          rw [getD_set (by rw [s.lsz]; exact hjlt)]
          exact .inr (he q hq)
theorem hx_e {i d : Nat} {l : List Src} (hd : o.dst = some d) (hN : Nat.blt d N = true) (hg : GdW ops (srcEnv p E0 l) o)
    (hx : OpX P N M ops o (srcEnv p E0 l) (He ++ Hq) (fun e h => ∃ v He', look e d = some (true, v) ∧ h = He' ++ Hq ∧ QM P F N M K ops E0 Hq ((i, some (d, true, v)) :: p) (i :: eff) He')) : HX P F N M K ops E0 Hq p eff He i o l := fun a w Kc Q hf ho hk => by
  have hw : Region.wanted o (yielded ops a.tmps) = true := hg.wtd hf
  have h := hx a w Kc Q hf ho (fun env' H' u w' hR hf' ho' => by
    obtain ⟨v, He', hlook, rfl, hqm⟩ := hR
    have hdN : d < N := by simpa using hN
    have hu' : u = v := by
      have := hf'.ok d true v hlook
      rw [hd] at this
      have hd' : d < a.tmps.size := by rw [hf.sz]; exact hdN
      simpa [Act.put, hd'] using this
    subst hu'
    rw [hd]
    exact hk (some (d, true, u)) He' w' ⟨hd, hdN⟩ ho' hqm)
  rw [hw, if_pos rfl] at h
  exact h
theorem srcEnv_ext (h : ∀ k, getP p k = getP p' k) : ∀ l : List Src, srcEnv p E0 l = srcEnv p' E0 l ∧ inP p l = inP p' l
  | [] => ⟨rfl, rfl⟩
  | .o j :: l => by
    obtain ⟨h1, h2⟩ := srcEnv_ext h l
    simp only [inP] at h2
    simp only [srcEnv, inP, List.all_cons, h j, h1, h2, and_self]
  | .k t :: l => by
    obtain ⟨h1, h2⟩ := srcEnv_ext h l
    simp only [inP] at h2
    simp only [srcEnv, inP, List.all_cons, h1, h2, and_self]
theorem QM.ext (h : ∀ k, getP p k = getP p' k) (he : ∀ k, k ∈ eff ↔ k ∈ eff') (hq : QM P F N M K ops E0 Hq p eff He) : QM P F N M K ops E0 Hq p' eff' He := fun hQ hD fuel listed a w s hu hE ho =>
  hq (fun i x hi => by
    rw [h i] at hi
    rcases hQ i x hi with h1 | ⟨o, d, g, v, l, h1, h2, h3, h4, h5, h6, h7⟩
    · exact .inl ((he i).2 h1)
    · obtain ⟨e1, e2⟩ := srcEnv_ext (E0 := E0) h l
      exact .inr ⟨o, d, g, v, l, h1, h2, h3, (h i).trans h4, h5, e2.trans h6, fun He => by rw [e1]; exact h7 He⟩) (fun i x hi => hD i x ((h i).symm.trans hi)) fuel listed a w
    ⟨s.dfr, s.sz, s.lsz, s.down, fun i hi => by obtain ⟨x, hx, hh⟩ := s.ent i hi; exact ⟨x, (h i).trans hx, hh⟩, s.e0⟩ hu (fun i hi => hE i ((he i).1 hi)) ho
theorem QM.ent {He' : List HP} (he : Ent (He ++ Hq) (He' ++ Hq)) (hq : QM P F N M K ops E0 Hq p eff He') : QM P F N M K ops E0 Hq p eff He := fun hQ hD fuel listed a w s hu hE ho => hq hQ hD fuel listed a w s hu hE (ho.ent he)
/-- Two variables that are made, one ahead of the other or the other way round. -/
theorem qm_alloc2 {i j di dj : Nat} {oi oj : Oper} {Ti Tj : TypeId} {zi zj : List Value} (zri : ZR P Ti zi) (zrj : ZR P Tj zj) (hac : acB ops = true) (hds : dstB ops = true) (hi : ops[i]? = some oi) (hj : ops[j]? = some oj) (hni : getP p i = Option.none) (hnj : getP p j = Option.none)
    (hdi : oi.dst = some di) (hdj : oj.dst = some dj) (hNi : Nat.blt di N = true) (hNj : Nat.blt dj N = true) (hne : Nat.beq i j = false) (hrest : restC ops p [i, j] = true) (hr1 : ∀ x, restB ops ((i, x) :: p) j = true) (hr2 : ∀ x, restB ops ((j, x) :: p) i = true)
    (hgi : oi.guard = Option.none) (hgj : oj.guard = Option.none) (hopi : oi.op = .alloc Ti) (hopj : oj.op = .alloc Tj)
    (h : ∀ bi bj, QM P F N M K ops E0 Hq ((j, some (dj, true, .pointer (some ⟨bj, 0, Option.none⟩))) :: (i, some (di, true, .pointer (some ⟨bi, 0, Option.none⟩))) :: p) (j :: i :: eff) (blk bj zj Tj :: blk bi zi Ti :: He)) : QM P F N M K ops E0 Hq p eff He := by
  have hij : ¬ i = j := fun e => by subst e; simp at hne
  have gw : ∀ (o : Oper) (q : Plan), o.guard = Option.none → GdW ops (srcEnv q E0 []) o := fun o q hg => ⟨true, .n hg, rfl⟩
  refine qm_any (cs := [i, j]) (i0 := i) (by simp) hac hds hrest fun c hc => ?_
  simp only [List.mem_cons, List.not_mem_nil, or_false] at hc
  rcases hc with rfl | rfl
  · refine ⟨oi, [], hi, hni, rfl, gw _ _ hgi, hx_e hdi hNi (gw _ _ hgi) ((gw _ _ hgi).opx (x_alloc (o := ung oi) zri hopi rfl hdi hNi fun bi => ⟨.pointer (some ⟨bi, 0, Option.none⟩), blk bi zi Ti :: He, by simp [look], rfl, ?_⟩))⟩
    refine qm_alloc zrj [] hac hds hj (by simp only [getP]; rw [beq_ne hij]; exact hnj) hdj hNj rfl (hr1 _) (gw _ _ hgj) hopj fun bj => ?_
    exact h bi bj
  · refine ⟨oj, [], hj, hnj, rfl, gw _ _ hgj, hx_e hdj hNj (gw _ _ hgj) ((gw _ _ hgj).opx (x_alloc (o := ung oj) zrj hopj rfl hdj hNj fun bj => ⟨.pointer (some ⟨bj, 0, Option.none⟩), blk bj zj Tj :: He, by simp [look], rfl, ?_⟩))⟩
    refine qm_alloc zri [] hac hds hi (by simp only [getP]; rw [beq_ne (fun e => hij e.symm)]; exact hni) hdi hNi rfl (hr2 _) (gw _ _ hgi) hopi fun bi => ?_
    refine QM.ent (He' := blk bj zj Tj :: blk bi zi Ti :: He) Ent.swap (QM.ext (fun k => ?_) (fun k => ?_) (h bi bj))
    · simp only [getP]
      by_cases e1 : i = k
      · have e2 : ¬ c = k := fun e => hij (e1.trans e.symm)
        rw [beq_ne e2]; rfl
      · rw [beq_ne e1]; rfl
    · simp only [List.mem_cons]
      constructor
      · rintro (h | h | h)
        · exact .inr (.inl h)
        · exact .inl h
        · exact .inr (.inr h)
      · rintro (h | h | h)
        · exact .inr (.inl h)
        · exact .inl h
        · exact .inr (.inr h)

/-! ### A barrier with some pure ones left -/
variable {x y : Operand} {u : Value}
def barX (ops : Array Oper) (p : Plan) (ex : List Nat) (i : Nat) : Bool := match ops[i]? with
  | some o => let r := reachL ops i (onsOf o); p.all fun e => ex.contains e.1 || r.contains e.1
  | Option.none => false
/-- The next of the plan waits for all of it: all that is owned may be turned. -/
theorem qm_barx {ex : List Nat} {i : Nat} {l : List Src} (hac : acB ops = true) (hds : dstB ops = true) (hi : ops[i]? = some o) (hn : getP p i = Option.none) (hs : srcB ops i l = true) (hrest : restB ops p i = true) (hbar : barX ops p ex i = true) (hex : ∀ e ∈ ex, ∀ x, getP p e = some x → QOk P M N ops E0 [] p e) (hg : GdW ops (srcEnv p E0 l) o)
    (hx : ∀ a w (Kc : Act → World → Prop) (Q : Exit → Act → World → Prop), Fits N (srcEnv p E0 l) a → Own M (He ++ Hq) w →
      (∀ x Hn w', entOk N o x → Own M Hn w' → QM P F N M K ops E0 [] ((i, x) :: p) (i :: (p.map (·.1)).filter fun q => !ex.contains q) Hn →
        Kc (putE a x) w') → o.wp P a w Kc Q) : QM P F N M K ops E0 Hq p eff He := by
  intro hQ hD fuel
  induction fuel with
  | zero =>
    intro listed a w s hu he ho
    exfalso
    have hlt := (Array.getElem?_eq_some_iff.1 hi).1
    have hni : listed.getD i true = false := by
      cases hl : listed.getD i false with
      | true => obtain ⟨x, hx, _⟩ := s.ent i hl; rw [hn] at hx; cases hx
      | false =>
        have : i < listed.size := by rw [s.lsz]; exact hlt
        simp [this] at hl ⊢; exact hl
    have := unl_set hlt hni
    omega
  | succ fuel ih =>
    intro listed a w s hu he ho
    have hlt := (Array.getElem?_eq_some_iff.1 hi).1
    have hnl : listed.getD i false = false := by
      cases hl : listed.getD i false with
      | true => obtain ⟨x, hx, _⟩ := s.ent i hl; rw [hn] at hx; cases hx
      | false => rfl
    have hni : listed.getD i true = false := by
      have : i < listed.size := by rw [s.lsz]; exact hlt
      simp [this] at hnl ⊢; exact hnl
    refine ⟨fun hnil => absurd hnil (ready_ne hac s.lsz i hlt hni), fun j hj => ?_⟩
    obtain ⟨h0, oj, hoj, hon⟩ := ready_lt hj
    by_cases hji : j = i
    · subst hji
      rw [hi] at hoj; cases hoj
      have hfit := s.fits hj hs
      have hw : Region.wanted o (yielded ops a.tmps) = true := hg.wtd hfit
      unfold wpOp
      simp only [hi]
      rw [hw, if_pos rfl]
      refine .inl (hx a w _ _ hfit ho fun x Hn w' hxd ho' hqm => ?_)
      have hxm : o.dst = x.map (·.1) := by
        cases x with
        | none => exact hxd
        | some e => exact hxd.1
      have hst := St.step (x := x) hds (s.cons (e := x) hn) hj hi (by simp [getP]) (fun q hq d' g' v' hq' => by
        rcases getP_cons' hq' with ⟨rfl, h⟩ | h
        · exact ⟨o, hi, by rw [hxm, ← h]; rfl⟩
        · exact hD q _ h) hxd
      have hall : ∀ q ∈ p.map (·.1), q ∉ ex → listed.getD q false = true := by
        intro q hq hqx
        obtain ⟨e, he', rfl⟩ := List.mem_map.1 hq
        simp only [barX, hi] at hbar
        have hc := List.all_eq_true.1 hbar e he'
        rcases Bool.or_eq_true_iff.1 hc with hc | hc
        · exact absurd (List.contains_iff_mem.1 hc) hqx
        refine reachL_ok (ops := ops) (Q := fun j => listed.getD j false = true) (fun i' h j' hj' => s.down i' h j' hj') j (onsOf o) (fun j' hj' => ?_) e.1 (List.contains_iff_mem.1 hc)
        exact hon j' (by simp only [onB, hi]; exact List.contains_iff_mem.2 hj')
      refine hqm (fun q y hq => ?_) (fun q y hq' => ?_) fuel _ _ w' hst (by have := unl_set hlt hni; omega) (fun q hq => ?_) (by rw [List.append_nil]; exact ho')
      · rcases getP_cons' hq with ⟨rfl, _⟩ | hq
        · exact .inl (by simp)
        · by_cases hqx : q ∈ ex
          · exact .inr ((hex q hqx y hq).cons hn)
          · exact .inl (by simp only [List.mem_cons, List.mem_filter]; exact .inr ⟨List.mem_map.2 ⟨_, getP_mem hq, rfl⟩, by simpa using hqx⟩)
      · rcases getP_cons' hq' with ⟨rfl, rfl⟩ | h
        · exact ⟨o, hi, hxm⟩
        · exact hD q y h
      · rw [getD_set (by rw [s.lsz]; exact hlt)]
        rcases List.mem_cons.1 hq with rfl | hq
        · exact .inl rfl
        · obtain ⟨h1, h2⟩ := List.mem_filter.1 hq
          exact .inr (hall q h1 (by simpa using h2))
    · cases hp : getP p j with
      | none =>
        exfalso
        have hjlt := (Array.getElem?_eq_some_iff.1 hoj).1
        have := List.all_eq_true.1 hrest j (by simpa using hjlt)
        rw [hp, Option.isSome_none, Bool.or_false] at this
        rcases Bool.or_eq_true_iff.1 this with h | h
        · exact hji (beq_iff_eq.1 h)
        · rw [rest_ok s.down hon h] at hnl; cases hnl
      | some x =>
        rcases hQ j x hp with h | h
        · have := he j h
          rw [not_listed h0] at this; cases this
        · refine run_quiet hds hD s hj h ho fun a' w' s' ho' => ?_
          have hjlt := (Array.getElem?_eq_some_iff.1 hoj).1
          refine ih _ a' w' s' (by have := unl_set hjlt h0; omega) (fun q hq => ?_) ho'
          rw [getD_set (by rw [s.lsz]; exact hjlt)]
          exact .inr (he q hq)

theorem exOne {e d : Nat} {l : List Src} {g : Bool} {v : Value} (hi : ops[e]? = some o) (hd : o.dst = some d) (hN : Nat.blt d N = true) (hp : getP p e = some (some (d, g, v))) (hs : srcB ops e l = true) (hin : inP p l = true) (hq : ∀ He, RQ P M ops o (srcEnv p E0 l) (He ++ []) g v) :
    ∀ e' ∈ [e], ∀ x, getP p e' = some x → QOk P M N ops E0 [] p e' := fun e' he' x hx => by
  simp at he'; subst he'
  exact ⟨o, d, g, v, l, hi, hd, by simpa using hN, hp, hs, hin, hq⟩
theorem qx_store {ex : List Nat} {i b j n : Nat} {T T' : TypeId} {cs cs' vs : List Value} {Re H2 : List HP} (hsz : SizeIs P T n) (l : List Src) (hac : acB ops = true) (hds : dstB ops = true) (hi : ops[i]? = some o) (hn : getP p i = Option.none) (hd : o.dst = Option.none) (hs : srcB ops i l = true) (hrest : restB ops p i = true) (hbar : barX ops p ex i = true) (hg : GdW ops (srcEnv p E0 l) o)
    (hex : ∀ e ∈ ex, ∀ x, getP p e = some x → QOk P M N ops E0 [] p e)
    [c : Cat He Hq H2] (hop : o.op = .store T x y) (hx : evo (srcEnv p E0 l) x = some (true, .pointer (some ⟨b, j, Option.none⟩))) [s : SelB H2 b cs T' Re] (hy : evo (srcEnv p E0 l) y = some (true, u)) (hu : u.cells = vs.toArray) (hvn : vs.length = n) (h1 : vs.all (·.oneCell') = true) (hin : Ins cs j vs cs')
    (h : QM P F N M K ops E0 [] ((i, Option.none) :: p) (i :: (p.map (·.1)).filter fun q => !ex.contains q) (blk b cs' T' :: Re)) : QM P F N M K ops E0 Hq p eff He :=
  qm_barx (l := l) hac hds hi hn hs hrest hbar hex hg fun a w Kc Q hf ho hk => by
    have hw : Region.wanted o (yielded ops a.tmps) = true := hg.wtd hf
    have hxx := (hg.opx (x_store (o := (ung o)) (P := P) (N := N) (M := M) (ops := ops) (H := He ++ Hq) (Rr := fun _ h => QM P F N M K ops E0 [] ((i, Option.none) :: p) (i :: (p.map (·.1)).filter fun q => !ex.contains q) h) hsz (by rw [c.eq]; exact s.ent) hop rfl hd hx hy hu hvn h1 hin h)) a w Kc Q hf ho (fun env' H' u w' hR hf' ho' => by
      rw [hd]
      exact hk Option.none H' w' hd ho' hR)
    rw [hw, if_pos rfl] at hxx
    exact hxx

end Go.Proofs.YtmakdilmibjpbacGreat

namespace Go.Proofs.YtmakdilmibjpbacGreat
open Go Go.RowKit
set_option linter.unusedVariables false

section ents
variable {H R L : List HP} {b sz : Nat} {cs : List Value} {T E : TypeId} {v : Value} {rows : List (List Value)} {X : HP}
theorem eR : Ent H H := Ent.rfl
theorem eB [s : SelB H b cs T R] (k : Ent R L) : Ent H (blk b cs T :: L) := Ent.c s.ent k
theorem eS [s : SelS H v E sz rows R] (k : Ent R L) : Ent H (sl v E sz rows :: L) := Ent.c s.ent k
theorem eX [s : SelX H X R] (k : Ent R L) : Ent H (X :: L) := Ent.c s.ent k
theorem eD (k : Ent R L) : Ent (X :: R) L := Ent.dropR k
theorem eN (k : Ent H L) : Ent H (sl (.slice Option.none 0 0) E sz [] :: L) := Ent.cN k
end ents
theorem bq1 (a b : Bool) : ((a && b) = true) = (a = true ∧ b = true) := Bool.and_eq_true a b
theorem bq2 (a b : Bool) : ((a || b) = true) = (a = true ∨ b = true) := Bool.or_eq_true a b
theorem bq3 (a b : Bool) : ((a || b) = false) = (a = false ∧ b = false) := by simp
theorem bq4 (a : Bool) : ((!a) = true) = (a = false) := by simp
theorem bq5 (a : Bool) : ((!a) = false) = (a = true) := by simp
theorem bq6 (p : Prop) [Decidable p] : (decide p = true) = p := by simp
theorem bq7 (p : Prop) [Decidable p] : (decide p = false) = ¬ p := by simp
theorem bq8 (a b : Bool) : ((a && b) = false) = (a = false ∨ b = false) := by cases a <;> cases b <;> simp

variable {P : Program} {F : Exit → Act → World → Prop} {N : Nat} {M : Amb} {env E0 : Env} {H Hq He : List HP} {ops : Array Oper} {o : Oper} {K : List KI} {p : Plan} {eff : List Nat}
variable {g gx : Bool} {x y : Operand} {v : Value}
theorem r_sr {id : Nat} {l : List Oper} {c : Code} (h : Ops P F N M (.code c :: K) l.toArray l env H) : Run P F N M (.code (.seq (.region id l.toArray false) c) :: K) env H := r_seq (r_region h)
theorem qp {d : Nat} (i : Nat) (l : List Src) (hi : ops[i]? = some o) (hn : getP p i = Option.none) (hd : o.dst = some d) (hN : Nat.blt d N = true) (hs : srcB ops i l = true) (hin : inP p l = true)
    (hq : PV P ops o (srcEnv p E0 l) g v) (k : QM P F N M K ops E0 Hq ((i, some (d, g, v)) :: p) eff He) : QM P F N M K ops E0 Hq p eff He := qm_q hi hn hd hN hs hin (fun _ => hq.rq) k
theorem qr {d : Nat} (i : Nat) (l : List Src) (hi : ops[i]? = some o) (hn : getP p i = Option.none) (hd : o.dst = some d) (hN : Nat.blt d N = true) (hs : srcB ops i l = true) (hin : inP p l = true)
    (hq : ∀ He, RV P M ops o (srcEnv p E0 l) (He ++ Hq) g v) (k : QM P F N M K ops E0 Hq ((i, some (d, g, v)) :: p) eff He) : QM P F N M K ops E0 Hq p eff He := qm_q hi hn hd hN hs hin (fun He => (hq He).rq) k
theorem u_mv (h0 : o.guard = Option.none) (hop : o.op = .move x) (hx : evo env x = some (true, v)) : PV P ops o env true v := pv_mv (.n h0) hop hx (fun _ => rfl)
theorem u_as (h0 : o.guard = Option.none) (hop : o.op = .assign x) (hx : evo env x = some (true, v)) : PV P ops o env true v := pv_as (.n h0) hop hx (fun _ => rfl)
theorem u_nil {A : Addr} (h0 : o.guard = Option.none) (hop : o.op = .nilCheck x) (hx : evo env x = some (true, .pointer (some A))) : PV P ops o env true (.pointer (some A)) := pv_nilp (.n h0) hop hx (fun _ => rfl)
theorem u_fa {s : TypeId} {f fo b off : Nat} (fa : faB P s f fo = true) (h0 : o.guard = Option.none) (hop : o.op = .fieldAddr s x f) (hx : evo env x = some (true, .pointer (some ⟨b, off, Option.none⟩))) : PV P ops o env true (.pointer (some ⟨b, off + fo, Option.none⟩)) := pv_fa fa (.n h0) hop hx (fun _ => rfl)
theorem u_ext {t i : Nat} {vs : List Value} (h0 : o.guard = Option.none) (hop : o.op = .extract (.tmp t) i) (hx : look env t = some (true, .tuple vs.toArray)) (hv : vs[i]? = some v) : PV P ops o env true v := pv_ext (.n h0) hop hx hv (fun _ => rfl)
theorem u_ldc {t b i : Nat} {cs : List Value} {T : TypeId} {R : List HP} (tc : tcB P t = true) (h0 : o.guard = Option.none) (hop : o.op = .load t x) (hx : evo env x = some (true, .pointer (some ⟨b, i, Option.none⟩))) [s : SelB H b cs T R] (hv : cs[i]? = some v) : RV P M ops o env H true v := q_ldc tc (.n h0) hop hx (fun _ => rfl) hv

end Go.Proofs.YtmakdilmibjpbacGreat

namespace Go.Proofs.YtmakdilmibjpbacGreat
open Go Go.RowKit
set_option linter.unusedVariables false

variable {P : Program} {F : Exit → Act → World → Prop} {N : Nat} {M : Amb} {env eb : Env} {H H' R : List HP} {a : Act} {w : World} {ops : Array Oper} {o : Oper} {rest : List Oper} {K : List KI}
variable {E0 : Env} {Hq He : List HP} {p p' : Plan} {eff eff' : List Nat} {f : FuncId}

theorem entComm : ∀ {A B : List HP}, Ent (A ++ B) (B ++ A)
  | [], B => by rw [List.append_nil]; exact Ent.rfl
  | X :: A, B => Ent.tr (Ent.mono (entComm (A := A) (B := B))) (Ent.unA (Ent.rfl (H := X :: A)))
theorem FnN.on {α : Type} {vs : List Value} {A : List HP} {rt : α → Value} {New : α → List HP} (hc : FnN P M f vs A rt New) (s : SelL Hq A R) (He : List HP) : FnR P M (He ++ Hq) f vs (fun v H' => ∃ x, v = rt x ∧ H' = New x ++ (He ++ Hq)) := fun w ho =>
  (hc (R ++ He) w (ho.ent (Ent.tr entComm (Ent.tr (Ent.app s.ent) (by rw [List.append_assoc]; exact Ent.rfl))))).mono fun _ _ ⟨v, H', e, ⟨x, h1, h2⟩, ho'⟩ => ⟨v, _, e, ⟨x, h1, rfl⟩, by
    subst h2
    rw [List.append_assoc] at ho'
    exact ho'.ent (entPre (Ent.tr (by rw [← List.append_assoc]; exact Ent.app s.back) entComm))⟩
theorem getP_swap {i j : Nat} {x y : Option (Nat × Bool × Value)} (h : ¬ i = j) (p : Plan) (k : Nat) : getP ((i, x) :: (j, y) :: p) k = getP ((j, y) :: (i, x) :: p) k := by
  simp only [getP]
  by_cases e1 : i = k
  · have e2 : ¬ j = k := fun e => h (e1.trans e.symm)
    rw [beq_ne e2]; rfl
  · rw [beq_ne e1]; rfl
section calls
variable {d : Nat} {xs : List Operand} {vs : List Value} {at' : Array TypeId}
theorem qm_calln2 {i : Nat} {α : Type} {rt : α → Value} {New : α → List HP} (l : List Src) (hac : acB ops = true) (hds : dstB ops = true) (hi : ops[i]? = some o) (hn : getP p i = Option.none) (hd : o.dst = some d) (hN : Nat.blt d N = true) (hs : srcB ops i l = true) (hrest : restB ops p i = true) (hg : GdW ops (srcEnv p E0 l) o)
    (cf : cfB P f = true) (hop : o.op = .call { callee := .value (.func f), args := xs.toArray, argTypes := at' }) (ha : Args (srcEnv p E0 l) xs vs) (hc : FnR P M (He ++ Hq) f vs (fun v H' => ∃ x, v = rt x ∧ H' = New x ++ (He ++ Hq)))
    (h : ∀ x, QM P F N M K ops E0 Hq ((i, some (d, true, rt x)) :: p) (i :: eff) (New x ++ He)) : QM P F N M K ops E0 Hq p eff He :=
  qm_e l hac hds hi hn hd hN hs hrest hg (hg.opx (x_call (o := (ung o)) (Post := fun v H' => ∃ x, v = rt x ∧ H' = New x ++ (He ++ Hq)) cf hop rfl hd hN ha hc (by rintro _ _ ⟨x, rfl, rfl⟩; exact ⟨_, New x ++ He, by simp [look], by rw [List.append_assoc], h x⟩)))
theorem hx_calln2 {i : Nat} {α : Type} {rt : α → Value} {New : α → List HP} (l : List Src) (hd : o.dst = some d) (hN : Nat.blt d N = true) (hg : GdW ops (srcEnv p E0 l) o)
    (cf : cfB P f = true) (hop : o.op = .call { callee := .value (.func f), args := xs.toArray, argTypes := at' }) (ha : Args (srcEnv p E0 l) xs vs) (hc : FnR P M (He ++ Hq) f vs (fun v H' => ∃ x, v = rt x ∧ H' = New x ++ (He ++ Hq)))
    (h : ∀ x, QM P F N M K ops E0 Hq ((i, some (d, true, rt x)) :: p) (i :: eff) (New x ++ He)) : HX P F N M K ops E0 Hq p eff He i o l :=
  hx_e hd hN hg (hg.opx (x_call (o := (ung o)) (Post := fun v H' => ∃ x, v = rt x ∧ H' = New x ++ (He ++ Hq)) cf hop rfl hd hN ha hc (by rintro _ _ ⟨x, rfl, rfl⟩; exact ⟨_, New x ++ He, by simp [look], by rw [List.append_assoc], h x⟩)))
end calls
theorem fnv_tru {α : Type} [DecidableEq α] {l : α} {vs : List Value} (h : FnV P M H f vs (.bool (decide (l = l)))) : FnV P M H f vs (.bool true) := by
  have e : decide (l = l) = true := by simp
  rw [e] at h; exact h

end Go.Proofs.YtmakdilmibjpbacGreat

namespace Go.Proofs.YtmakdilmibjpbacGreat
open Go Go.RowKit
set_option linter.unusedVariables false
variable {H R : List HP} {α β : Type} {P : β → α → HP} {bs : List β} {ds : List α} {i : Nat} {b : β} {d : α}

def allP (L : List HP) : HP := fun h => sep L h
theorem allP_out {L : List HP} : Ent (allP L :: R) (L ++ R) := fun h ⟨a, b, ha, hb, hd, e⟩ => ⟨h, by subst e; exact sep_app' ha hb hd, Hp.sub_refl h⟩
theorem allP_in {L : List HP} : Ent (L ++ R) (allP L :: R) := fun h hx => by
  obtain ⟨a, b, ha, hb, hd, e⟩ := sep_app hx
  exact ⟨h, ⟨a, b, ha, hb, hd, e⟩, Hp.sub_refl h⟩
theorem entOut {X : HP} : ∀ {A B : List HP}, Ent (A ++ X :: B) (X :: (A ++ B))
  | [], _ => Ent.rfl
  | Y :: A, B => Ent.tr (Ent.mono (entOut (A := A) (B := B))) Ent.swap
def manyP (P : β → α → HP) (bs : List β) (ds : List α) : HP := allP (List.zipWith P bs ds)
def restP (P : β → α → HP) (bs : List β) (ds : List α) (i : Nat) : HP := allP (List.zipWith P (bs.take i) (ds.take i) ++ List.zipWith P (bs.drop (i + 1)) (ds.drop (i + 1)))
theorem zip_cut : ∀ {bs : List β} {ds : List α} {i : Nat} {b : β} {d : α}, bs[i]? = some b → ds[i]? = some d →
    List.zipWith P bs ds = List.zipWith P (bs.take i) (ds.take i) ++ P b d :: List.zipWith P (bs.drop (i + 1)) (ds.drop (i + 1))
  | [], _, _, _, _, h, _ => by simp at h
  | _ :: _, [], _, _, _, _, h => by simp at h
  | x :: bs, y :: ds, 0, b, d, h1, h2 => by simp at h1 h2; subst h1; subst h2; simp
  | x :: bs, y :: ds, i + 1, b, d, h1, h2 => by
    have := zip_cut (bs := bs) (ds := ds) (i := i) (b := b) (d := d) (by simpa using h1) (by simpa using h2)
    simp [this]
/-- One of them is taken out. -/
theorem many_out (h1 : bs[i]? = some b) (h2 : ds[i]? = some d) : Ent (manyP P bs ds :: R) (P b d :: restP P bs ds i :: R) := by
  refine Ent.tr allP_out ?_
  rw [zip_cut h1 h2, List.append_assoc, List.cons_append]
  refine Ent.tr entOut (Ent.mono ?_)
  rw [← List.append_assoc]
  exact allP_in
/-- It is laid back, as it is now. -/
theorem many_in {d' : α} (h1 : bs[i]? = some b) (h2 : ds[i]? = some d) : Ent (P b d' :: restP P bs ds i :: R) (manyP P bs (ds.set i d') :: R) := by
  have hi := (List.getElem?_eq_some_iff.1 h2).1
  have hz := zip_cut (P := P) (bs := bs) (ds := ds.set i d') (i := i) (b := b) (d := d') h1 (by simp [hi])
  rw [List.take_set_of_le (Nat.le_refl i), List.drop_set_of_lt (Nat.lt_succ_self i)] at hz
  refine Ent.tr (Ent.mono allP_out) ?_
  unfold manyP
  rw [hz]
  refine Ent.tr ?_ allP_in
  rw [List.append_assoc, List.append_assoc, List.cons_append]
  exact Ent.unA Ent.rfl
/-- The same, where what it hides has changed too. -/
theorem many_in2 {b' : β} {d' : α} (h1 : bs[i]? = some b) (h2 : ds[i]? = some d) : Ent (P b' d' :: restP P bs ds i :: R) (manyP P (bs.set i b') (ds.set i d') :: R) := by
  have hi := (List.getElem?_eq_some_iff.1 h2).1
  have hj := (List.getElem?_eq_some_iff.1 h1).1
  have hz := zip_cut (P := P) (bs := bs.set i b') (ds := ds.set i d') (i := i) (b := b') (d := d') (by simp [hj]) (by simp [hi])
  rw [List.take_set_of_le (Nat.le_refl i), List.drop_set_of_lt (Nat.lt_succ_self i), List.take_set_of_le (Nat.le_refl i), List.drop_set_of_lt (Nat.lt_succ_self i)] at hz
  refine Ent.tr (Ent.mono allP_out) ?_
  unfold manyP
  rw [hz]
  refine Ent.tr ?_ allP_in
  rw [List.append_assoc, List.append_assoc, List.cons_append]
  exact Ent.unA Ent.rfl
theorem zip_set {γ : Type} {f : β → α → γ} {b' : β} {d' : α} : ∀ {bs : List β} {ds : List α} {i : Nat}, (List.zipWith f bs ds).set i (f b' d') = List.zipWith f (bs.set i b') (ds.set i d')
  | [], _, _ => by simp
  | _ :: _, [], i => by cases i <;> simp
  | _ :: _, _ :: _, 0 => by simp
  | _ :: bs, _ :: ds, i + 1 => by simp [zip_set (bs := bs) (ds := ds) (i := i)]
theorem zip_get {γ : Type} {f : β → α → γ} (h1 : bs[i]? = some b) (h2 : ds[i]? = some d) : (List.zipWith f bs ds)[i]? = some (f b d) := by
  rw [List.getElem?_zipWith, h1, h2]
theorem many_back (h1 : bs[i]? = some b) (h2 : ds[i]? = some d) : Ent (P b d :: restP P bs ds i :: R) (manyP P bs ds :: R) := by
  have e : ds.set i d = ds := by
    apply List.ext_getElem?
    intro j
    by_cases hj : i = j
    · subst hj; rw [h2]; simp [(List.getElem?_eq_some_iff.1 h2).1]
    · rw [List.getElem?_set_ne hj]
  have := many_in (P := P) (R := R) (d' := d) h1 h2
  rwa [e] at this
/-- One more. -/
theorem many_add (hl : bs.length = ds.length) : Ent (P b d :: manyP P bs ds :: R) (manyP P (bs ++ [b]) (ds ++ [d]) :: R) := by
  refine Ent.tr (Ent.mono allP_out) ?_
  unfold manyP
  refine Ent.tr ?_ allP_in
  rw [List.zipWith_append hl, List.append_assoc]
  exact Ent.unA Ent.rfl
theorem r_many {Pg : Program} {F : Exit → Act → World → Prop} {N : Nat} {M : Amb} {K : List KI} {env : Env} (i : Nat) {bs : List β} {ds : List α} {b : β} {d : α} (h1 : bs[i]? = some b) (h2 : ds[i]? = some d) [t : SelX H (manyP P bs ds) R] (h : Run Pg F N M K env (P b d :: restP P bs ds i :: R)) : Run Pg F N M K env H := r_ent (Ent.tr t.ent (many_out h1 h2)) h
theorem many_nil : Ent R (manyP P [] ([] : List α) :: R) := allP_in (L := [])

end Go.Proofs.YtmakdilmibjpbacGreat

namespace Go.Proofs.YtmakdilmibjpbacGreat
open Go Go.RowKit
set_option linter.unusedVariables false

variable {P : Program} {F : Exit → Act → World → Prop} {N : Nat} {M : Amb} {env eb : Env} {H H' R : List HP} {a : Act} {w : World} {ops : Array Oper} {o : Oper} {rest : List Oper} {K : List KI}
variable {g gx gy gz : Bool} {x y z : Operand} {v v' u ret : Value} {T T2 E : TypeId} {Rr : Env → List HP → Prop}

theorem flat_set {sz j : Nat} {us r r' sp : List Value} : ∀ {rows : List (List Value)} {i : Nat}, RowsOk sz rows → rows[i]? = some r → Ins r j us r' →
    (rows.flatten ++ sp).take (i * sz + j) ++ us ++ (rows.flatten ++ sp).drop (i * sz + j + us.length) = (rows.set i r').flatten ++ sp ∧ i * sz + j + us.length ≤ rows.flatten.length ∧ r'.length = sz
  | [], _, _, h, _ => by simp at h
  | r0 :: rows, 0, hok, h, hi => by
    simp at h; subst h
    obtain ⟨h1, h2⟩ := hi.eq
    have hl := (hok r0 (by simp)).1
    subst h2
    refine ⟨?_, by simp; omega, by simp; omega⟩
    simp only [Nat.zero_mul, Nat.zero_add, List.flatten_cons, List.set_cons_zero, List.append_assoc]
    rw [List.take_append_of_le_length (by omega), List.drop_append_of_le_length (by omega)]
  | r0 :: rows, i + 1, hok, h, hi => by
    have hl := (hok r0 (by simp)).1
    obtain ⟨h1, h2, h3⟩ := flat_set (sp := sp) hok.tail (by simpa using h) hi
    refine ⟨?_, by simp only [List.flatten_cons, List.length_append, hl, Nat.succ_mul]; omega, h3⟩
    simp only [List.flatten_cons, List.set_cons_succ, List.append_assoc]
    rw [show (i + 1) * sz + j = r0.length + (i * sz + j) from by rw [hl, Nat.succ_mul]; omega, show r0.length + (i * sz + j) + us.length = r0.length + (i * sz + j + us.length) from by omega,
      List.take_length_add_append, List.drop_length_add_append, List.append_assoc]
    rw [← h1]; simp

theorem RowsOk.set {sz i : Nat} {r' : List Value} {rows : List (List Value)} (h : RowsOk sz rows) (hl : r'.length = sz) (h1 : ∀ v ∈ r', v.oneCell' = true) : RowsOk sz (rows.set i r') := fun x hx => by
  rcases List.mem_or_eq_of_mem_set hx with hx | rfl
  · exact h x hx
  · exact ⟨hl, h1⟩

/-- A store into an element of a slice of one's own. -/
theorem x_stel {sz i j q n : Nat} {rows : List (List Value)} {r r' us : List Value} (hs : SizeIs P T n) (he : Ent H (sl v E sz rows :: R)) (hrow : rows[i]? = some r) (hq : q = i * sz + j) (hop : o.op = .store T x y) (hgd : o.guard = Option.none) (hd : o.dst = Option.none)
    (hx : evo env x = some (true, ptrAt v q)) (hy : evo env y = some (true, u)) (hu : u.cells = us.toArray) (hn : us.length = n) (h1 : us.all (·.oneCell') = true) (hi : Ins r j us r')
    (h : Rr env (sl v E sz (rows.set i r') :: R)) : OpX P N M ops o env H Rr := fun a w Kc Q hf ho hK => by
  have hw : Region.wanted o (yielded ops a.tmps) = true := by simp [Region.wanted, hgd]
  rw [hw, if_pos rfl]
  subst hq
  have ho' := ho.ent he
  rcases ho'.slE with ⟨rfl, rfl, _⟩ | ⟨b, cap, rfl, ho2⟩
  · simp at hrow
  · obtain ⟨sp, ho3, q1, q2, q3, q4⟩ := ho2.arrE
    obtain ⟨f1, f2, f3⟩ := flat_set (sp := sp) q1 hrow hi
    have hv : ptrAt (.slice (some ⟨b, 0, Option.none⟩) rows.length cap) (i * sz + j) = .pointer (some ⟨b, i * sz + j, Option.none⟩) := by simp [ptrAt]
    rw [hv] at hx
    have hrun := run_storeVar (P := P) (T := T) (n := n) hs ho3.blk.2 (u := u) (i := i * sz + j) (by simp [hu, hn]) (by rw [← hn, List.length_append]; omega) (by simpa [hu] using h1)
    have hr : (execOp a.eval o).run P w = .ok .skip (w.setRow b ((rows.set i r').flatten ++ sp).toArray) := by
      rw [hu] at hrun
      simp only at hrun
      rw [← hn, f1] at hrun
      simp [execOp, hop, hf.ev hx _root_.rfl, hf.ev hy _root_.rfl, Instr.storeAt, Instr.sureAddr, hrun]
    simp only [Oper.wp, hr, Oper.upon_skip]
    have hr1 : ∀ c ∈ r', c.oneCell' = true := by
      obtain ⟨_, e⟩ := hi.eq
      rw [e]
      intro c hc
      have hro := (q1 r (List.mem_of_getElem? hrow)).2
      rcases List.mem_append.1 hc with hc | hc
      · rcases List.mem_append.1 hc with hc | hc
        · exact hro c (List.mem_of_mem_take hc)
        · exact List.all_eq_true.1 h1 c hc
      · exact hro c (List.mem_of_mem_drop hc)
    have hfl : (rows.set i r').flatten.length = rows.flatten.length := by rw [flat_len (q1.set f3 hr1), flat_len q1, List.length_set]
    have hput := (setRow_own (cs' := (rows.set i r').flatten ++ sp) ho3).arrI (cap := cap) (q1.set f3 hr1) (by simpa using q2) q3 (by rw [List.length_append, hfl, ← List.length_append, q4])
    have := hput.slI
    rw [List.length_set] at this
    exact hK _ _ _ _ h (by simpa [Act.put, hd] using hf) this

theorem made_one (u : Value) (n : Nat) : madeCells #[u] n = (List.replicate n u).toArray := by
  apply Array.ext'
  simp only [madeCells, Array.toList_map, Array.toList_range]
  apply List.ext_getElem?
  intro i
  simp only [List.getElem?_map, List.getElem?_replicate]
  by_cases h : i < n
  · simp [h, Nat.mod_one]
  · simp [h]
theorem rep_flat (u : Value) : ∀ n : Nat, (List.replicate n [u]).flatten = List.replicate n u
  | 0 => rfl
  | n + 1 => by simp [List.replicate_succ, rep_flat u n]
/-- A slice of cells that is made. -/
theorem x_mks {bytes d n : Nat} (hT : P.underlying T = some (.slice E)) (hE : EL P E 1 bytes) (zr : ZR P E [u]) (hu : u.oneCell' = true) (hop : o.op = .makeSlice T x x) (hgd : o.guard = Option.none) (hd : o.dst = some d) (hN : Nat.blt d N = true)
    (hx : evo env x = some (true, .int .i64 (n : Int))) (hb : bytes * n ≤ 281474976710656) (hm : n ≤ maxLen) (h : ∀ v', Rr ((d, true, v') :: env) (sl v' E 1 (List.replicate n [u]) :: H)) : OpX P N M ops o env H Rr := fun a w Kc Q hf ho hK => by
  have hw : Region.wanted o (yielded ops a.tmps) = true := by simp [Region.wanted, hgd]
  rw [hw, if_pos rfl]
  obtain ⟨i, z, hi, hz, q1, q2, q3⟩ := hE.is
  subst q2
  have hzc : z.cells = #[u] := by
    unfold ZR at zr
    rw [hi] at zr
    simp [hz] at zr
    exact Array.ext' (by simpa using zr)
  have hm' : (n : Int) ≤ 9223372036854775807 := by simp only [maxLen] at hm; omega
  have hb' : (i.bytes : Int) * (n : Int) ≤ 281474976710656 := by
    have h : ((i.bytes * n : Nat) : Int) ≤ 281474976710656 := by omega
    rwa [Int.natCast_mul] at h
  have hrun := run_make (P := P) w T E i z hT hi hz .i64 .i64 n n (by omega) (Int.le_refl _) hb' hm'
  simp only [Int.toNat_natCast, q1, Nat.mul_one, hzc, made_one] at hrun
  have hr : (execOp a.eval o).run P w = .ok (.value (.slice (some ⟨w.heap.size, 0, Option.none⟩) n n)) (w.alloc (.cells (List.replicate n u).toArray E)) := by
    simp [execOp, hop, hf.ev hx rfl, hrun]
  simp only [Oper.wp, hr, Oper.upon_value]
  refine hK _ _ _ _ (h _) (by rw [hd]; exact hf.put hN true _) ?_
  have hrows : RowsOk 1 (List.replicate n [u]) := fun r hr => by
    have := List.eq_of_mem_replicate hr
    subst this
    exact ⟨rfl, fun c hc => by simp at hc; subst hc; exact hu⟩
  have hal := (ho.alloc ((List.replicate n [u]).flatten ++ []) E).arrI (cap := n) (sz := 1) hrows (by simp) hm (by rw [List.append_nil, flat_len hrows]; simp)
  have := hal.slI
  rw [List.append_nil, rep_flat, List.length_replicate] at this
  exact this

section short
variable {d : Nat} {ty : TypeId} {ps : String} {af : Array Edge}
theorem p_stel {sz i q n : Nat} {rows : List (List Value)} {r r' us : List Value} (j : Nat) (hs : SizeIs P T n) (hx : evo env x = some (true, ptrAt v q)) [s : SelS H v E sz rows R] (hrow : rows[i]? = some r) (hq : q = i * sz + j) (hy : evo env y = some (true, u)) (hu : u.cells = us.toArray) (hn : us.length = n) (h1 : us.all (·.oneCell') = true) (hi : Ins r j us r')
    (h : Ops P F N M K ops rest env (sl v E sz (rows.set i r') :: R)) : Ops P F N M K ops (⟨Option.none, .store T x y, ty, ps, af, Option.none⟩ :: rest) env H :=
  l_op (x_stel hs s.ent hrow hq rfl rfl rfl hx hy hu hn h1 hi h)
theorem p_mks {bytes n : Nat} (hT : P.underlying T = some (.slice E)) (hE : EL P E 1 bytes) (zr : ZR P E [u]) (hu : u.oneCell' = true) (hx : evo env x = some (true, .int .i64 (n : Int))) (hN : Nat.blt d N = true) (hb : bytes * n ≤ 281474976710656 ∧ n ≤ maxLen)
    (h : ∀ v', Ops P F N M K ops rest ((d, true, v') :: env) (sl v' E 1 (List.replicate n [u]) :: H)) : Ops P F N M K ops (⟨some d, .makeSlice T x x, ty, ps, af, Option.none⟩ :: rest) env H :=
  l_op (x_mks hT hE zr hu rfl rfl rfl hN hx hb.1 hb.2 h)
end short
variable {E0 : Env} {Hq He Re H2 : List HP} {p : Plan} {eff : List Nat}
theorem qm_stel {i sz k q n : Nat} {rows : List (List Value)} {r r' us : List Value} (j : Nat) (hsz : SizeIs P T n) (hrow : rows[k]? = some r) (hq : q = k * sz + j) (l : List Src) (hac : acB ops = true) (hds : dstB ops = true) (hi : ops[i]? = some o) (hn : getP p i = Option.none) (hd : o.dst = Option.none) (hs : srcB ops i l = true) (hrest : restB ops p i = true) (hg : GdW ops (srcEnv p E0 l) o)
    (hop : o.op = .store T x y) (hx : evo (srcEnv p E0 l) x = some (true, ptrAt v q)) [s : SelS He v E sz rows Re] (hy : evo (srcEnv p E0 l) y = some (true, u)) (hu : u.cells = us.toArray) (hvn : us.length = n) (h1 : us.all (·.oneCell') = true) (hin : Ins r j us r')
    (h : QM P F N M K ops E0 Hq ((i, Option.none) :: p) (i :: eff) (sl v E sz (rows.set k r') :: Re)) : QM P F N M K ops E0 Hq p eff He :=
  qm_s l hac hds hi hn hd hs hrest hg (hg.opx (x_stel (o := (ung o)) hsz (Ent.app (A' := sl v E sz rows :: Re) s.ent) hrow hq hop rfl hd hx hy hu hvn h1 hin ⟨sl v E sz (rows.set k r') :: Re, rfl, h⟩))
theorem qb_stel {i sz k q n : Nat} {rows : List (List Value)} {r r' us : List Value} (j : Nat) (hsz : SizeIs P T n) (hrow : rows[k]? = some r) (hq : q = k * sz + j) (l : List Src) (hac : acB ops = true) (hds : dstB ops = true) (hi : ops[i]? = some o) (hn : getP p i = Option.none) (hd : o.dst = Option.none) (hs : srcB ops i l = true) (hrest : restB ops p i = true) (hbar : barB ops p i = true) (hg : GdW ops (srcEnv p E0 l) o)
    [c : Cat He Hq H2] (hop : o.op = .store T x y) (hx : evo (srcEnv p E0 l) x = some (true, ptrAt v q)) [s : SelS H2 v E sz rows Re] (hy : evo (srcEnv p E0 l) y = some (true, u)) (hu : u.cells = us.toArray) (hvn : us.length = n) (h1 : us.all (·.oneCell') = true) (hin : Ins r j us r')
    (h : QM P F N M K ops E0 [] ((i, Option.none) :: p) (i :: p.map (·.1)) (sl v E sz (rows.set k r') :: Re)) : QM P F N M K ops E0 Hq p eff He :=
  qb_s l hac hds hi hn hd hs hrest hbar hg (hg.opx (x_stel (o := (ung o)) hsz (by rw [c.eq]; exact s.ent) hrow hq hop rfl hd hx hy hu hvn h1 hin h))
theorem qm_mks {i d bytes n : Nat} (hT : P.underlying T = some (.slice E)) (hE : EL P E 1 bytes) (zr : ZR P E [u]) (hu : u.oneCell' = true) (l : List Src) (hac : acB ops = true) (hds : dstB ops = true) (hi : ops[i]? = some o) (hn : getP p i = Option.none) (hd : o.dst = some d) (hN : Nat.blt d N = true) (hs : srcB ops i l = true) (hrest : restB ops p i = true) (hg : GdW ops (srcEnv p E0 l) o)
    (hop : o.op = .makeSlice T x x) (hx : evo (srcEnv p E0 l) x = some (true, .int .i64 (n : Int))) (hb : bytes * n ≤ 281474976710656 ∧ n ≤ maxLen)
    (h : ∀ v', QM P F N M K ops E0 Hq ((i, some (d, true, v')) :: p) (i :: eff) (sl v' E 1 (List.replicate n [u]) :: He)) : QM P F N M K ops E0 Hq p eff He :=
  qm_e l hac hds hi hn hd hN hs hrest hg (hg.opx (x_mks (o := (ung o)) hT hE zr hu hop rfl hd hN hx hb.1 hb.2 fun v' => ⟨v', sl v' E 1 (List.replicate n [u]) :: He, by simp [look], rfl, h v'⟩))

theorem fnv_to {f : FuncId} {vs : List Value} (h : FnV P M H f vs v) (e : v = v') : FnV P M H f vs v' := e ▸ h
theorem FnE.all {α : Type} {f : FuncId} {vs : List Value} {A : List HP} {rt : α → Value} {New : α → List HP} (h : FnE P M f vs A rt (fun x => New x ++ A)) : FnR P M A f vs (fun v H' => ∃ x, v = rt x ∧ H' = New x ++ A) := by
  have := h []
  simpa using this
/-- A call that makes something beside a slice that is made: either may come first. -/
theorem qm_cm {i j di dj bytes n : Nat} {oi oj : Oper} {α : Type} {rt : α → Value} {X : α → HP} {xs : List Operand} {vs : List Value} {at' : Array TypeId} {f : FuncId} {li lj : List Src} (hT : P.underlying T = some (.slice E)) (hE : EL P E 1 bytes) (zr : ZR P E [u]) (hu : u.oneCell' = true)
    (hac : acB ops = true) (hds : dstB ops = true) (hi : ops[i]? = some oi) (hj : ops[j]? = some oj) (ni : getP p i = Option.none) (nj : getP p j = Option.none)
    (die : oi.dst = some di) (dje : oj.dst = some dj) (Ni : Nat.blt di N = true) (Nj : Nat.blt dj N = true) (eij : Nat.beq i j = false) (si : srcB ops i li = true) (sj : srcB ops j lj = true) (c0 : restC ops p [i, j] = true) (ri : ∀ y, restB ops ((j, y) :: p) i = true) (rj : ∀ x, restB ops ((i, x) :: p) j = true)
    (gi : oi.guard = Option.none) (gj : oj.guard = Option.none) (cf : cfB P f = true) (hopi : oi.op = .call { callee := .value (.func f), args := xs.toArray, argTypes := at' }) (hopj : oj.op = .makeSlice T x x)
    (ai : Args (srcEnv p E0 li) xs vs) (ai' : ∀ y, Args (srcEnv ((j, y) :: p) E0 li) xs vs) (xj : evo (srcEnv p E0 lj) x = some (true, .int .i64 (n : Int))) (xj' : ∀ z, evo (srcEnv ((i, z) :: p) E0 lj) x = some (true, .int .i64 (n : Int))) (hb : bytes * n ≤ 281474976710656 ∧ n ≤ maxLen)
    (hc : ∀ He, FnR P M (He ++ Hq) f vs (fun v H' => ∃ x, v = rt x ∧ H' = [X x] ++ (He ++ Hq)))
    (h : ∀ x v', QM P F N M K ops E0 Hq ((j, some (dj, true, v')) :: (i, some (di, true, rt x)) :: p) (j :: i :: eff) (sl v' E 1 (List.replicate n [u]) :: X x :: He)) : QM P F N M K ops E0 Hq p eff He := by
  have hij : ¬ i = j := fun e => by subst e; simp at eij
  have gw : ∀ (o : Oper) (q : Plan) (l : List Src), o.guard = Option.none → GdW ops (srcEnv q E0 l) o := fun o q l hg => ⟨true, .n hg, rfl⟩
  have gp : ∀ {i k : Nat} {x : Option (Nat × Bool × Value)} {q : Plan}, ¬ i = k → getP q k = Option.none → getP ((i, x) :: q) k = Option.none := fun hne hq => by simp only [getP]; rw [beq_ne hne]; exact hq
  refine qm_any (cs := [i, j]) (i0 := i) (by simp) hac hds c0 fun c hcc => ?_
  simp only [List.mem_cons, List.not_mem_nil, or_false] at hcc
  rcases hcc with rfl | rfl
  · refine ⟨oi, li, hi, ni, si, gw _ _ _ gi, hx_calln2 (New := fun x => [X x]) li die Ni (gw _ _ _ gi) cf hopi ai (hc _) fun z => ?_⟩
    refine qm_mks hT hE zr hu lj hac hds hj (gp hij nj) dje Nj sj (rj _) (gw _ _ _ gj) hopj (xj' _) hb fun v' => ?_
    exact h z v'
  · refine ⟨oj, lj, hj, nj, sj, gw _ _ _ gj, hx_e dje Nj (gw _ _ _ gj) ((gw _ _ lj gj).opx (x_mks (o := ung oj) hT hE zr hu hopj rfl dje Nj xj hb.1 hb.2 fun v' => ⟨v', sl v' E 1 (List.replicate n [u]) :: He, by simp [look], rfl, ?_⟩))⟩
    refine qm_calln2 (New := fun x => [X x]) li hac hds hi (gp (fun e => hij e.symm) ni) die Ni si (ri _) (gw _ _ _ gi) cf hopi (ai' _) (hc _) fun z => ?_
    refine QM.ent (He' := sl v' E 1 (List.replicate n [u]) :: X z :: He) Ent.swap (QM.ext (fun k => ?_) (fun k => ?_) (h z v'))
    · exact getP_swap (fun e => hij e.symm) p k
    · simp only [List.mem_cons]; constructor <;> (rintro (q | q | q) <;> simp [q])

/-! ### One of several effects comes first -/
def Cand (P : Program) (F : Exit → Act → World → Prop) (N : Nat) (M : Amb) (K : List KI) (ops : Array Oper) (E0 : Env) (Hq : List HP) (p : Plan) (eff : List Nat) (He : List HP) (c : Nat) : Prop :=
  ∃ o l, ops[c]? = some o ∧ getP p c = Option.none ∧ srcB ops c l = true ∧ GdW ops (srcEnv p E0 l) o ∧ HX P F N M K ops E0 Hq p eff He c o l
theorem qm_two {i j : Nat} (hac : acB ops = true) (hds : dstB ops = true) (c0 : restC ops p [i, j] = true) (hi : Cand P F N M K ops E0 Hq p eff He i) (hj : Cand P F N M K ops E0 Hq p eff He j) : QM P F N M K ops E0 Hq p eff He :=
  qm_any (cs := [i, j]) (i0 := i) (by simp) hac hds c0 fun c hc => by
    simp only [List.mem_cons, List.not_mem_nil, or_false] at hc
    rcases hc with rfl | rfl
    · exact hi
    · exact hj
theorem qm_three {i j k : Nat} (hac : acB ops = true) (hds : dstB ops = true) (c0 : restC ops p [i, j, k] = true) (hi : Cand P F N M K ops E0 Hq p eff He i) (hj : Cand P F N M K ops E0 Hq p eff He j) (hk : Cand P F N M K ops E0 Hq p eff He k) : QM P F N M K ops E0 Hq p eff He :=
  qm_any (cs := [i, j, k]) (i0 := i) (by simp) hac hds c0 fun c hc => by
    simp only [List.mem_cons, List.not_mem_nil, or_false] at hc
    rcases hc with rfl | rfl | rfl
    · exact hi
    · exact hj
    · exact hk
theorem cand_alloc {i d : Nat} {zs : List Value} (zr : ZR P T zs) (hi : ops[i]? = some o) (hn : getP p i = Option.none) (hd : o.dst = some d) (hN : Nat.blt d N = true) (hg : o.guard = Option.none) (hop : o.op = .alloc T)
    (h : ∀ b, QM P F N M K ops E0 Hq ((i, some (d, true, .pointer (some ⟨b, 0, Option.none⟩))) :: p) (i :: eff) (blk b zs T :: He)) : Cand P F N M K ops E0 Hq p eff He i :=
  have gw : GdW ops (srcEnv p E0 []) o := ⟨true, .n hg, rfl⟩
  ⟨o, [], hi, hn, rfl, gw, hx_e hd hN gw (gw.opx (x_alloc (o := ung o) zr hop rfl hd hN fun b => ⟨.pointer (some ⟨b, 0, Option.none⟩), blk b zs T :: He, by simp [look], rfl, h b⟩))⟩
theorem cand_calln {i d : Nat} {α : Type} {rt : α → Value} {X : α → HP} {xs : List Operand} {vs : List Value} {at' : Array TypeId} {f : FuncId} (l : List Src) (hi : ops[i]? = some o) (hn : getP p i = Option.none) (hd : o.dst = some d) (hN : Nat.blt d N = true) (hs : srcB ops i l = true) (hg : o.guard = Option.none)
    (cf : cfB P f = true) (hop : o.op = .call { callee := .value (.func f), args := xs.toArray, argTypes := at' }) (ha : Args (srcEnv p E0 l) xs vs) (hc : FnR P M (He ++ Hq) f vs (fun v H' => ∃ x, v = rt x ∧ H' = [X x] ++ (He ++ Hq)))
    (h : ∀ x, QM P F N M K ops E0 Hq ((i, some (d, true, rt x)) :: p) (i :: eff) (X x :: He)) : Cand P F N M K ops E0 Hq p eff He i :=
  have gw : GdW ops (srcEnv p E0 l) o := ⟨true, .n hg, rfl⟩
  ⟨o, l, hi, hn, hs, gw, hx_calln2 (New := fun x => [X x]) l hd hN gw cf hop ha hc h⟩
theorem cand_callc {i d : Nat} {A A' C R : List HP} {xs : List Operand} {vs : List Value} {at' : Array TypeId} {f : FuncId} (l : List Src) (hi : ops[i]? = some o) (hn : getP p i = Option.none) (hd : o.dst = some d) (hN : Nat.blt d N = true) (hs : srcB ops i l = true) (hg : o.guard = Option.none)
    (cf : cfB P f = true) (hop : o.op = .call { callee := .value (.func f), args := xs.toArray, argTypes := at' }) (ha : Args (srcEnv p E0 l) xs vs) [s : SelL He A R] [c : Cat A' R C] (hc : FnC P M f vs ret A A')
    (h : QM P F N M K ops E0 Hq ((i, some (d, true, ret)) :: p) (i :: eff) C) : Cand P F N M K ops E0 Hq p eff He i :=
  have gw : GdW ops (srcEnv p E0 l) o := ⟨true, .n hg, rfl⟩
  ⟨o, l, hi, hn, hs, gw, hx_e hd hN gw (gw.opx (x_call (o := ung o) (Post := fun v H' => v = ret ∧ H' = C ++ Hq) cf hop rfl hd hN ha
    (FnR.pre (Ent.app (A' := A ++ R) s.ent) (by rw [List.append_assoc]; exact (hc (R ++ Hq)).post fun v H' hv => ⟨hv.1, by rw [hv.2, ← List.append_assoc, c.eq]⟩)) fun v H' hv => ⟨v, C, by simp [look], hv.2, hv.1 ▸ h⟩))⟩
/-- An element, one cell, of an array that is a value. -/
theorem pv_indexc {nn i : Nat} {cs : List Value} {k : IntKind} {m : Int} (hT : P.underlying T = some (.array nn E)) (tc : tcB P E = true) (hn : g = true → m = (i : Int) ∧ i < nn) (hg : Gd ops env o g) (hop : o.op = .index T x y)
    (hx : evo env x = some (gx, .agg cs.toArray)) (hy : evo env y = some (gy, .int k m)) (hi : g = true → gx = true ∧ gy = true) (hv : g = true → cs[i]? = some v) : PV P ops o env g v :=
  fun _ _ hf => ⟨hg.wanted hf, fun e w => by
    obtain ⟨rfl, hlt⟩ := hn e
    obtain ⟨h1, inf, h3, h4⟩ := run_isAgg_no tc w
    have hv := hv e
    have hbd : (0 : Int) ≤ (i : Int) ∧ (i : Int) < (nn : Int) := by omega
    have hv' : cs.toArray[i]? = some v := by simpa using hv
    simp only [execOp, hop, Instr.index, hf.ev hx (hi e).1, hf.ev hy (hi e).2, asIntOf, Sem.run_bind, Sem.run_pure, Result.andThen_ok, run_und hT, hbd, and_self, if_true, sizeOf, run_info h3, h4, part, h1, Int.toNat_natCast, Nat.mul_one]
    simp [hv']⟩

end Go.Proofs.YtmakdilmibjpbacGreat

namespace Go.Proofs.YtmakdilmibjpbacGreat
open Go Go.RowKit
set_option linter.unusedVariables false

variable {P : Program} {F : Exit → Act → World → Prop} {N : Nat} {M : Amb} {env eb : Env} {H H' R : List HP} {a : Act} {w : World} {ops : Array Oper} {o : Oper} {rest : List Oper} {K : List KI}
variable {g gx gy gz : Bool} {x y z : Operand} {v v' u ret : Value} {T T2 E : TypeId} {k : IntKind} {m : Int} {f : FuncId}

abbrev fnV (f : FuncId) (caps : List Value) : Value := .func (.func f) #[] caps.toArray
theorem pv_mkf {xs : List Operand} {vs : List Value} (hgd : o.guard = Option.none) (hop : o.op = .makeFunc (.func f) #[] xs.toArray) (ha : Args env xs vs) : PV P ops o env true (fnV f vs) :=
  fun _ a hf => ⟨by simp [Region.wanted, hgd], fun _ w => by
    have hm := ha.map hf
    simp [execOp, hop, Instr.makeFunc, fnV]
    exact hm⟩
/-- A call of a function that is a value. -/
theorem rq_callf {cx : Operand} {xs : List Operand} {vs caps : List Value} {at' : Array TypeId} (cf : cfB P f = true) (hg : Gd ops env o g) (hop : o.op = .call { callee := .value cx, args := xs.toArray, argTypes := at' })
    (hc0 : evo env cx = some (gx, fnV f caps)) (hi : g = true → gx = true) (ha : ArgsG env g xs vs) (hc : g = true → FnV P M H f (vs ++ caps) v) : RQ P M ops o env H g v := fun N a w hf ho => ⟨hg.wanted hf, fun e Kc Q hK => by
  have hr : (execOp a.eval o).run P w = .ok (.enter f (vs ++ caps).toArray) w := by
    have hm := ha.map hf e
    have hcv := hf.ev hc0 (hi e)
    have hm2 : (xs.map a.eval).toArray = vs.toArray := by rw [hm]
    have hm3 : Array.map a.eval xs.toArray = vs.toArray := by rw [← hm2]; simp
    simp only [execOp, hop, resolve, hcv, Deferred.ofValue, Sem.run_bind, Sem.run_pure, Result.andThen_ok, invoke, hm3]
    rw [show (#[] ++ vs.toArray ++ caps.toArray) = (vs ++ caps).toArray by simp]
    exact run_callFunc cf
  simp only [Oper.wp, hr, Oper.upon_enter]
  refine (hc e w ho).mono ?_
  rintro e w' ⟨v, H', rfl, ⟨rfl, rfl⟩, ho'⟩
  exact hK w' ho'⟩
section short
variable {d : Nat} {ty : TypeId} {ps : String} {af : Array Edge} {A A' C : List HP} {xs : List Operand} {vs caps : List Value} {at' : Array TypeId}
end short
/-- An element of an array that is a value. -/
theorem pv_index {nn sz i : Nat} {cs us : List Value} (hT : P.underlying T = some (.array nn E)) (ta : taB P E sz = true) (hn : g = true → m = (i : Int) ∧ i < nn) (hg : Gd ops env o g) (hop : o.op = .index T x y)
    (hx : evo env x = some (gx, .agg cs.toArray)) (hy : evo env y = some (gy, .int k m)) (hi : g = true → gx = true ∧ gy = true) (hv : g = true → (cs.drop (i * sz)).take sz = us) : PV P ops o env g (.agg us.toArray) :=
  fun _ _ hf => ⟨hg.wanted hf, fun e w => by
    obtain ⟨rfl, hlt⟩ := hn e
    obtain ⟨h1, inf, h3, h4⟩ := run_isAgg_yes ta w
    have hv := hv e
    have hbd : (0 : Int) ≤ (i : Int) ∧ (i : Int) < (nn : Int) := by omega
    simp only [execOp, hop, Instr.index, hf.ev hx (hi e).1, hf.ev hy (hi e).2, asIntOf, Sem.run_bind, Sem.run_pure, Result.andThen_ok, run_und hT, hbd, and_self, if_true, sizeOf, run_info h3, h4, part, h1, Int.toNat_natCast]
    simp [← hv, List.take_drop, Nat.add_comm]⟩

/-- An operation whose guard says no turns nothing. -/
theorem rq_no (hg : Gd ops env o g) (e : g = false) : RQ P M ops o env H false v := fun N a w hf _ => ⟨e ▸ hg.wanted hf, fun h => by cases h⟩

theorem r_cat2 {X Y : HP} {A B C : List HP} [c : Cat A B C] (h : Run P F N M K env (X :: Y :: C)) : Run P F N M K env (X :: Y :: (A ++ B)) := by rw [c.eq]; exact h
/-! ### Parts that hide two or three values -/
def ex2 {α β : Type} (L : α → β → List HP) : HP := fun h => ∃ x y, sep (L x y) h
def ex3 {α β γ : Type} (L : α → β → γ → List HP) : HP := fun h => ∃ x y z, sep (L x y z) h
theorem Ent.ex2 {α β : Type} {L : α → β → List HP} (x : α) (y : β) : Ent (L x y ++ R) (Go.Proofs.YtmakdilmibjpbacGreat.ex2 L :: R) := fun h hx => by
  obtain ⟨a, b, ha, hb, hd, e⟩ := sep_app hx
  exact ⟨h, ⟨a, b, ⟨x, y, ha⟩, hb, hd, e⟩, Hp.sub_refl h⟩
theorem Ent.ex3 {α β γ : Type} {L : α → β → γ → List HP} (x : α) (y : β) (z : γ) : Ent (L x y z ++ R) (Go.Proofs.YtmakdilmibjpbacGreat.ex3 L :: R) := fun h hx => by
  obtain ⟨a, b, ha, hb, hd, e⟩ := sep_app hx
  exact ⟨h, ⟨a, b, ⟨x, y, z, ha⟩, hb, hd, e⟩, Hp.sub_refl h⟩
theorem Own.ex2 {α β : Type} {L : α → β → List HP} (ho : Own M (Go.Proofs.YtmakdilmibjpbacGreat.ex2 L :: R) w) : ∃ x y, Own M (L x y ++ R) w := by
  obtain ⟨hb, hs, h, ⟨a, b, ⟨x, y, hx⟩, hr, hd, e⟩, hh⟩ := ho
  subst e
  exact ⟨x, y, hb, hs, _, sep_app' hx hr hd, hh⟩
theorem Own.ex3 {α β γ : Type} {L : α → β → γ → List HP} (ho : Own M (Go.Proofs.YtmakdilmibjpbacGreat.ex3 L :: R) w) : ∃ x y z, Own M (L x y z ++ R) w := by
  obtain ⟨hb, hs, h, ⟨a, b, ⟨x, y, z, hx⟩, hr, hd, e⟩, hh⟩ := ho
  subst e
  exact ⟨x, y, z, hb, hs, _, sep_app' hx hr hd, hh⟩
theorem r_ex2 {α β : Type} {L : α → β → List HP} (h : ∀ x y, Run P F N M K env (L x y ++ R)) : Run P F N M K env (ex2 L :: R) := fun a w hf ho => let ⟨x, y, hx⟩ := ho.ex2; h x y a w hf hx
theorem r_ex3 {α β γ : Type} {L : α → β → γ → List HP} (h : ∀ x y z, Run P F N M K env (L x y z ++ R)) : Run P F N M K env (ex3 L :: R) := fun a w hf ho => let ⟨x, y, z, hx⟩ := ho.ex3; h x y z a w hf hx
end Go.Proofs.YtmakdilmibjpbacGreat
