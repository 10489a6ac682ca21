/- What slices.Delete and slices.Clone do to a slice of one's own: append in place, clear, slices with a bound. -/
import Derived.Test.YtmakdilmibjpbabObj
import Derived.Laws.CopyRow
namespace Go.Proofs.Ytmakdilmibjpbab
open Go Go.RowKit
set_option linter.unusedVariables false
set_option linter.unusedSimpArgs false

variable {P : Program} {F : Exit → Act → World → Prop} {N : Nat} {M : Amb} {env eb : Env} {H H' R : List HP} {a : Act} {w : World} {ops : Array Oper} {o : Oper} {rest : List Oper} {K : List KI}
variable {g gx gy gz : Bool} {x y z : Operand} {v v' u ret : Value} {Rr : Env → List HP → Prop} {f : FuncId} {fn : Func} {T T2 E : TypeId} {k : IntKind} {m n : Int}

theorem pv_to (h : PV P ops o env g v) (e : v = v') : PV P ops o env g v' := e ▸ h

theorem run_slice3 {ao : Option Addr} {len cap l h mx : Nat} {lo hi mo : Option Value} (hT : P.underlying T = some (.slice E)) {sz : Nat} (hE : SizeIs P E sz) (hlo : lo = Option.none ∧ l = 0 ∨ ∃ kk, lo = some (.int kk (l : Int))) (hhi : hi = Option.none ∧ h = len ∨ ∃ kk, hi = some (.int kk (h : Int)))
    (hmo : mo = Option.none ∧ mx = cap ∨ ∃ kk, mo = some (.int kk (mx : Int))) (hn : hi = Option.none → mo = Option.none) (h1 : l ≤ h) (h2 : h ≤ mx) (h3 : mx ≤ cap) (w : World) :
    ∃ ao', (Instr.slice T (.slice ao len cap) lo hi mo).run P w = .ok (.slice ao' (h - l) (mx - l)) w ∧ (ao' = if mx = l then ao else ao.map (·.add (l * sz))) := by
  obtain ⟨inf, h4, h5⟩ := hE
  refine ⟨_, ?_, rfl⟩
  have h6 : h ≤ cap := by omega
  have h7 : l ≤ mx := by omega
  have h8 : l ≤ cap := by omega
  rcases hlo with ⟨rfl, rfl⟩ | ⟨kk, rfl⟩ <;> rcases hhi with ⟨rfl, rfl⟩ | ⟨kk', rfl⟩ <;> rcases hmo with ⟨rfl, rfl⟩ | ⟨kk2, rfl⟩ <;>
    first | (exfalso; simp at hn; done) | simp [Instr.slice, run_und hT, Instr.sliceBounds, Instr.sliceBound, asIntOf, sizeOf, run_info h4, h5, h1, h2, h3, h6, h7, h8]

/-- A slice of a slice that is written out. -/
theorem pv_slcl {sz l h len cap mx : Nat} {ao : Option Addr} {lo hi mo : Option Operand} {lv hv mv : Option Value} (hT : P.underlying T = some (.slice E)) (hE : SizeIs P E sz) (h1 : l ≤ h) (h2 : h ≤ mx) (h3 : mx ≤ cap) (hgd : o.guard = Option.none) (hop : o.op = .slice T x lo hi mo) (hx : evo env x = some (true, .slice ao len cap))
    (hlo : lo = Option.none ∧ lv = Option.none ∧ l = 0 ∨ ∃ y kk, lo = some y ∧ evo env y = some (true, .int kk (l : Int)) ∧ lv = some (.int kk (l : Int))) (hhi : hi = Option.none ∧ hv = Option.none ∧ h = len ∨ ∃ y kk, hi = some y ∧ evo env y = some (true, .int kk (h : Int)) ∧ hv = some (.int kk (h : Int)))
    (hmo : mo = Option.none ∧ mv = Option.none ∧ mx = cap ∨ ∃ y kk, mo = some y ∧ evo env y = some (true, .int kk (mx : Int)) ∧ mv = some (.int kk (mx : Int))) (hn : hv = Option.none → mv = Option.none) :
    PV P ops o env true (.slice (if mx = l then ao else ao.map (·.add (l * sz))) (h - l) (mx - l)) := fun _ a hf => ⟨(Gd.n hgd).wanted hf, fun _ w => by
  have e1 : lo.map a.eval = lv := by
    rcases hlo with ⟨rfl, rfl, _⟩ | ⟨y, kk, rfl, hy, rfl⟩
    · rfl
    · simp [hf.ev hy rfl]
  have e2 : hi.map a.eval = hv := by
    rcases hhi with ⟨rfl, rfl, _⟩ | ⟨y, kk, rfl, hy, rfl⟩
    · rfl
    · simp [hf.ev hy rfl]
  have e3 : mo.map a.eval = mv := by
    rcases hmo with ⟨rfl, rfl, _⟩ | ⟨y, kk, rfl, hy, rfl⟩
    · rfl
    · simp [hf.ev hy rfl]
  obtain ⟨ao', hrun, rfl⟩ := run_slice3 (P := P) (ao := ao) (len := len) (cap := cap) (l := l) (h := h) (mx := mx) (lo := lv) (hi := hv) (mo := mv) hT hE (by
    rcases hlo with ⟨_, h, h'⟩ | ⟨_, kk, _, _, h⟩
    · exact .inl ⟨h, h'⟩
    · exact .inr ⟨kk, h⟩) (by
    rcases hhi with ⟨_, h, h'⟩ | ⟨_, kk, _, _, h⟩
    · exact .inl ⟨h, h'⟩
    · exact .inr ⟨kk, h⟩) (by
    rcases hmo with ⟨_, h, h'⟩ | ⟨_, kk, _, _, h⟩
    · exact .inl ⟨h, h'⟩
    · exact .inr ⟨kk, h⟩) hn h1 h2 h3 w
  simp [execOp, hop, hf.ev hx rfl, Instr.sliceAt, run_und hT, e1, e2, e3, hrun]⟩

theorem flat_takeEq {sz l : Nat} {rows : List (List Value)} (hok : RowsOk sz rows) (h : l ≤ rows.length) : (rows.take l).flatten = rows.flatten.take (l * sz) := by
  have e := List.take_append_drop l rows
  have hl : (rows.take l).flatten.length = l * sz := by
    rw [flat_len hok.take, List.length_take, Nat.min_eq_left h]
  conv => rhs; rw [← e, flat_app, ← hl, List.take_left]

/-- An append that has room in an array of one's own, over what stood behind. -/
theorem x_append_in {b sz bytes d l1 cap : Nat} {rows rows2 : List (List Value)} (hT : P.underlying T = some (.slice E)) (hE : EL P E sz bytes) (he : Ent H (arr b E sz rows cap :: R)) (hr : Rd M H u sz rows2) (hsome : ∃ A m c, u = .slice (some A) m c ∧ A.spot = Option.none)
    (hroom : l1 + rows2.length ≤ cap) (hl1 : l1 ≤ rows.length)
    (hop : o.op = .call { callee := .builtin .append, args := #[x, y], argTypes := #[T, T] }) (hgd : o.guard = Option.none) (hd : o.dst = some d) (hN : Nat.blt d N = true) (hx : evo env x = some (true, .slice (some ⟨b, 0, Option.none⟩) l1 cap)) (hy : evo env y = some (true, u))
    (h : Rr ((d, true, .slice (some ⟨b, 0, Option.none⟩) (l1 + rows2.length) cap) :: env) (arr b E sz (rows.take l1 ++ rows2) cap :: R)) : OpX P N M ops o env H Rr := fun a w Kc Q hf ho hK => by
  have hw : Region.wanted o (yielded ops a.tmps) = true := by simp [Region.wanted, hgd]
  rw [hw, if_pos rfl]
  obtain ⟨i, z, hi, hz, q1, q2, q3⟩ := hE.is
  subst q1
  obtain ⟨A, m, c, rfl, hs⟩ := hsome
  obtain ⟨ao, cap2, e, hc1, hc2, hc3, hc4⟩ := hr.is
  cases e
  obtain ⟨b2, off2, spot2⟩ := A
  simp at hs; subst hs
  have hnews : ∀ j u, rows2.flatten[j]? = some u → w.cell? ((⟨b2, off2, Option.none⟩ : Addr).add j) = some u := fun j u hu => by
    rw [addr_add]
    refine (hc4 _ rfl ?_).2 w ho j u hu
    cases rows2 with
    | nil => simp at hu
    | cons _ _ => simp
  obtain ⟨sp, ho3, r1, r2, r3, r4⟩ := (ho.ent he).arrE
  have hl2 : rows2.flatten.length = rows2.length * i.size := flat_len hr.ok
  have hfit : l1 * i.size + rows2.flatten.length ≤ (rows.flatten ++ sp).length := by rw [r4, hl2, ← Nat.add_mul]; exact Nat.mul_le_mul_right _ hroom
  have hrun := run_append_room (P := P) w T o.type E i hT hi b l1 cap _ ho3.blk.2 ⟨b2, off2, Option.none⟩ rows2.length c rows2.flatten hl2 hnews hr.ok.one hroom (by simpa using hfit)
  have hrf : rows.flatten.length = rows.length * i.size := flat_len r1
  have hle : l1 * i.size ≤ rows.flatten.length := by rw [hrf]; exact Nat.mul_le_mul_right _ hl1
  have hlist : (rows.flatten ++ sp).take (l1 * i.size) ++ rows2.flatten ++ (rows.flatten ++ sp).drop (l1 * i.size + rows2.flatten.length) = (rows.take l1 ++ rows2).flatten ++ (rows.flatten ++ sp).drop (l1 * i.size + rows2.flatten.length) := by
    rw [flat_app, flat_takeEq r1 hl1, List.take_append_of_le_length hle]
  have hput := setRow_own (cs' := (rows.take l1 ++ rows2).flatten ++ (rows.flatten ++ sp).drop (l1 * i.size + rows2.flatten.length)) ho3
  have hx' := hf.ev hx rfl
  have hr' : (execOp a.eval o).run P w = .ok (.value (.slice (some ⟨b, 0, Option.none⟩) (l1 + rows2.length) cap)) (w.setRow b ((rows.take l1 ++ rows2).flatten ++ (rows.flatten ++ sp).drop (l1 * i.size + rows2.flatten.length)).toArray) := by
    have e1 : (execOp a.eval o).run P w = ((Builtin.append_ #[T, T] o.type #[.slice (some ⟨b, 0, Option.none⟩) l1 cap, .slice (some ⟨b2, off2, Option.none⟩) rows2.length c]).run P w).andThen (fun v w' => .ok (.value v) w') := by
      simp [execOp, hop, resolve, invoke, builtin, hx', hf.ev hy rfl]
    rw [e1, hrun, ← hlist]
    rfl
  simp only [Oper.wp, hr', Oper.upon_value]
  have hlen : (rows.take l1 ++ rows2).length = l1 + rows2.length := by simp [Nat.min_eq_left hl1]
  refine hK _ _ _ _ h (by rw [hd]; exact hf.put hN true _) (hput.arrI (r1.take.app hr.ok) (by rw [hlen]; exact hroom) r3 ?_)
  rw [flat_app, List.length_append, List.length_append, List.length_drop, hl2, flat_takeEq r1 hl1, List.length_take, Nat.min_eq_left hle]
  rw [hl2] at hfit
  rw [r4] at hfit ⊢
  omega

/-- A clear of the spare room of an array of one's own. -/
theorem x_clear {b sz bytes l m c cap : Nat} {rows : List (List Value)} {ao : Option Addr} (hT : P.underlying T = some (.slice E)) (hE : EL P E sz bytes) (he : Ent H (arr b E sz rows cap :: R)) (h1 : rows.length ≤ l) (h2 : l + m ≤ cap) (hz1 : ∀ z, (P.info? E).bind (·.zero) = some z → ∀ v ∈ z.cells.toList, v.oneCell' = true)
    (hop : o.op = .call { callee := .builtin .clear, args := #[x], argTypes := #[T] }) (hgd : o.guard = Option.none) (hd : o.dst = Option.none) (hx : evo env x = some (true, .slice ao m c)) (hao : 0 < m → ao = some ⟨b, l * sz, Option.none⟩)
    (h : Rr env (arr b E sz rows cap :: R)) : OpX P N M ops o env H Rr := fun a w Kc Q hf ho hK => by
  have hw : Region.wanted o (yielded ops a.tmps) = true := by simp [Region.wanted, hgd]
  rw [hw, if_pos rfl]
  have hx' := hf.ev hx rfl
  obtain ⟨i, z, hi, hz, q1, q2, q3⟩ := hE.is
  subst q1
  obtain ⟨sp, ho3, r1, r2, r3, r4⟩ := (ho.ent he).arrE
  by_cases hm : m = 0
  · subst hm
    have hr' : (execOp a.eval o).run P w = .ok (.value (.tuple #[])) w := by
      cases ao <;> simp [execOp, hop, resolve, invoke, builtin, hx', Builtin.clear_, run_und hT]
    simp only [Oper.wp, hr', Oper.upon_value]
    exact hK _ _ _ _ h (by simpa [Act.put, hd] using hf) (ho.ent he)
  · have hao' := hao (by omega)
    subst hao'
    have hzl : (Builtin.zeroCells z.cells m).toList.length = m * i.size := by
      have := size_zeroCells z.cells m
      rw [Array.length_toList, this, q3]
    have hzo : ∀ v ∈ (Builtin.zeroCells z.cells m).toList, v.oneCell' = true := by
      intro v hv
      simp only [Builtin.zeroCells, Array.toList_map, List.mem_map, Array.toList_range, List.mem_range] at hv
      obtain ⟨j, hj, rfl⟩ := hv
      have hpos : 0 < z.cells.size := by
        rcases Nat.eq_zero_or_pos z.cells.size with h0 | h0
        · rw [h0] at hj; simp at hj
        · exact h0
      have hlt := Nat.mod_lt j hpos
      refine hz1 z (by rw [hi]; exact hz) _ ?_
      rw [getElem!_pos z.cells (j % z.cells.size) hlt]
      exact Array.mem_toList_iff.2 (Array.getElem_mem hlt)
    have hrf : rows.flatten.length = rows.length * i.size := flat_len r1
    have hge : rows.flatten.length ≤ l * i.size := by rw [hrf]; exact Nat.mul_le_mul_right _ h1
    have hfit : l * i.size + 0 + (Builtin.zeroCells z.cells m).toList.length ≤ (rows.flatten ++ sp).toArray.size := by
      rw [hzl, Nat.add_zero, ← Nat.add_mul, List.size_toArray, r4]; exact Nat.mul_le_mul_right _ h2
    have hst := run_storeCells_at (P := P) b (l * i.size) E (Builtin.zeroCells z.cells m).toList 0 _ w ho3.blk.2 hfit hzo
    simp only [Nat.add_zero] at hst
    have hlist : (rows.flatten ++ sp).take (l * i.size) ++ (Builtin.zeroCells z.cells m).toList ++ (rows.flatten ++ sp).drop (l * i.size + (Builtin.zeroCells z.cells m).toList.length) =
        rows.flatten ++ (sp.take (l * i.size - rows.flatten.length) ++ (Builtin.zeroCells z.cells m).toList ++ (rows.flatten ++ sp).drop (l * i.size + (Builtin.zeroCells z.cells m).toList.length)) := by
      rw [List.take_append, List.take_of_length_le hge]
      simp
    have hput := setRow_own (cs' := rows.flatten ++ (sp.take (l * i.size - rows.flatten.length) ++ (Builtin.zeroCells z.cells m).toList ++ (rows.flatten ++ sp).drop (l * i.size + (Builtin.zeroCells z.cells m).toList.length))) ho3
    rw [hlist] at hst
    have hr' : (execOp a.eval o).run P w = .ok (.value (.tuple #[])) (w.setRow b (rows.flatten ++ (sp.take (l * i.size - rows.flatten.length) ++ (Builtin.zeroCells z.cells m).toList ++ (rows.flatten ++ sp).drop (l * i.size + (Builtin.zeroCells z.cells m).toList.length))).toArray) := by
      simp [execOp, hop, resolve, invoke, builtin, hx', Builtin.clear_, run_und hT, zeroValue, run_info hi, hz, hm]
      simp at hst
      rw [hst]
      simp
    simp only [Oper.wp, hr', Oper.upon_value]
    refine hK _ _ _ _ h (by simpa [Act.put, hd] using hf) (hput.arrI r1 r2 r3 ?_)
    have hfit' := hfit
    rw [List.size_toArray, r4, Nat.add_zero, hzl] at hfit'
    simp only [List.length_append, List.length_drop, List.length_take] at r4 ⊢
    rw [hzl]
    omega

def zoB (P : Program) (E : TypeId) : Bool := match (P.info? E).bind (·.zero) with | some z => z.cells.toList.all (·.oneCell') | Option.none => true
theorem zoB.ok (h : zoB P E = true) : ∀ z, (P.info? E).bind (·.zero) = some z → ∀ v ∈ z.cells.toList, v.oneCell' = true := fun z hz v hv => by
  unfold zoB at h; rw [hz] at h; exact List.all_eq_true.1 h v hv

/-- A slice of one's own that is not empty. -/
theorem r_slne (v : Value) {sz : Nat} {rows : List (List Value)} [s : SelS H v E sz rows R] (hne : 0 < rows.length) (h : ∀ b cap, v = .slice (some ⟨b, 0, Option.none⟩) rows.length cap → rows.length ≤ cap → Rd M [arr b E sz rows cap] (.slice (some ⟨b, 0, Option.none⟩) rows.length cap) sz rows → Run P F N M K env (arr b E sz rows cap :: R)) : Run P F N M K env H := fun a w hf ho => by
  rcases (ho.ent s.ent).slE with ⟨_, h2, _⟩ | ⟨b, cap, e, ho2⟩
  · subst h2; simp at hne
  · obtain ⟨sp, _, q1, q2, q3, _⟩ := ho2.arrE
    exact h b cap e q2 (Rd.arr q1 q2 q3 Ent.rfl) a w hf ho2
theorem r_sel (X : HP) [s : SelX H X R] (h : Run P F N M K env (X :: R)) : Run P F N M K env H := r_ent s.ent h
theorem Ent.slOf {b sz cap nn : Nat} {rows : List (List Value)} [s : SelR H b E sz rows cap R] (e : nn = rows.length) : Ent H (sl (.slice (some ⟨b, 0, Option.none⟩) nn cap) E sz rows :: R) :=
  Ent.tr s.ent (Ent.imp fun _ hx => .inr ⟨b, cap, by rw [e], hx⟩)
variable {E0 : Env} {Hq He Re : List HP} {p : Plan} {eff : List Nat}
theorem qm_append_in {i d b sz bytes l1 cap : Nat} {rows rows2 : List (List Value)} (hT : P.underlying T = some (.slice E)) (hE : EL P E sz bytes) (l : List Src) (hac : acB ops = true) (hds : dstB ops = true) (hi : ops[i]? = some o) (hn : getP p i = Option.none) (hd : o.dst = some d) (hN : Nat.blt d N = true) (hs : srcB ops i l = true) (hrest : restB ops p i = true) (hg : GdW ops (srcEnv p E0 l) o)
    (hop : o.op = .call { callee := .builtin .append, args := #[x, y], argTypes := #[T, T] }) (hx : evo (srcEnv p E0 l) x = some (true, .slice (some ⟨b, 0, Option.none⟩) l1 cap)) (hy : evo (srcEnv p E0 l) y = some (true, u)) [s : SelR He b E sz rows cap Re] (hr : Rd M (He ++ Hq) u sz rows2) (hsome : ∃ A m c, u = .slice (some A) m c ∧ A.spot = Option.none)
    (hroom : l1 + rows2.length ≤ cap) (hl1 : l1 ≤ rows.length)
    (h : QM P F N M K ops E0 Hq ((i, some (d, true, .slice (some ⟨b, 0, Option.none⟩) (l1 + rows2.length) cap)) :: p) (i :: eff) (arr b E sz (rows.take l1 ++ rows2) cap :: Re)) : QM P F N M K ops E0 Hq p eff He :=
  qm_e l hac hds hi hn hd hN hs hrest hg (hg.opx (x_append_in (o := (ung o)) hT hE (Ent.app (A' := arr b E sz rows cap :: Re) s.ent) hr hsome hroom hl1 hop rfl hd hN hx hy ⟨_, arr b E sz (rows.take l1 ++ rows2) cap :: Re, by simp [look], rfl, h⟩))

section short
variable {d : Nat} {ty : TypeId} {ps : String} {af : Array Edge}
theorem p_bslice0 {sz : Nat} {zl : List Value} (hT : P.underlying T = some (.slice E)) (hE : SizeIs P E sz) (zr : ZR P E zl) (hN : Nat.blt d N = true)
    (h : ∀ b, Ops P F N M K ops rest ((d, true, .slice (some ⟨b, 0, Option.none⟩) 0 0) :: env) (sl (.slice (some ⟨b, 0, Option.none⟩) 0 0) E sz [] :: H)) : Ops P F N M K ops (⟨some d, .buildSlice T 0 #[], ty, ps, af, Option.none⟩ :: rest) env H :=
  l_op (x_bslice (ps := []) (zs := []) (cs := []) (rows := []) [] hT hE zr (by simp) (by simp) (fun i => by simp) rfl (by simp) rfl rfl rfl hN .n rfl (fun r hr => by simp at hr) rfl fun b => fun a w hf ho => h b a w hf (ho.ent (Ent.slOf (rows := []) (cap := 0) rfl)))
end short
theorem Ent.left : ∀ {A R : List HP}, Ent (A ++ R) A
  | [], _ => Ent.nil
  | _ :: A, _ => Ent.mono (Ent.left (A := A))
theorem Rd.nilrows {sz l c : Nat} {rows : List (List Value)} (h : Rd M H (.slice Option.none l c) sz rows) : rows = [] := by
  obtain ⟨ao, cap, e, _, _, h3, _⟩ := h.is
  cases e
  exact List.eq_nil_of_length_eq_zero (h3 rfl).1

end Go.Proofs.Ytmakdilmibjpbab
