/- Regions whose order is drawn: several effects that may come up in any order. -/
import Derived.Test.YtmakdilmibjpbabArr
namespace Go.Proofs.Ytmakdilmibjpbab
open Go Go.RowKit
set_option linter.unusedVariables false

variable {P : Program} {F : Exit → Act → World → Prop} {N : Nat} {M : Amb} {env eb : Env} {H H' R : List HP} {a : Act} {w : World} {ops : Array Oper} {o : Oper} {rest : List Oper} {K : List KI}
variable {E0 : Env} {Hq He : List HP} {p p' : Plan} {eff eff' : List Nat}

def restC (ops : Array Oper) (p : Plan) (cs : List Nat) : Bool := (List.range ops.size).all fun i => cs.contains i || (getP p i).isSome || cs.any fun e => (onB ops i e || match ops[i]? with | some o => (reachL ops i (onsOf o)).contains e | Option.none => false)
/-- What one effect may do next. -/
def HX (P : Program) (F : Exit → Act → World → Prop) (N : Nat) (M : Amb) (K : List KI) (ops : Array Oper) (E0 : Env) (Hq : List HP) (p : Plan) (eff : List Nat) (He : List HP) (i : Nat) (o : Oper) (l : List Src) : Prop :=
  ∀ a w (Kc : Act → World → Prop) (Q : Exit → Act → World → Prop), Fits N (srcEnv p E0 l) a → Own M (He ++ Hq) w →
      (∀ x He' w', entOk N o x → Own M (He' ++ Hq) w' → QM P F N M K ops E0 Hq ((i, x) :: p) (i :: eff) He' → Kc (putE a x) w') → o.wp P a w Kc Q
theorem qm_any {cs : List Nat} {i0 : Nat} (h0 : i0 ∈ cs) (hac : acB ops = true) (hds : dstB ops = true) (hrest : restC ops p cs = true)
    (hc : ∀ c ∈ cs, ∃ o l, ops[c]? = some o ∧ getP p c = Option.none ∧ srcB ops c l = true ∧ GdW ops (srcEnv p E0 l) o ∧ HX P F N M K ops E0 Hq p eff He c o l) : QM P F N M K ops E0 Hq p eff He := by
  intro hQ hD fuel
  obtain ⟨oi, li, hi, hn, _⟩ := hc i0 h0
  have hun : ∀ c ∈ cs, ∀ (listed : Array Bool) (a : Act), St N ops E0 p listed a → listed.getD c false = false := fun c hcm listed a s => by
    obtain ⟨_, _, _, hnc, _⟩ := hc c hcm
    cases hl : listed.getD c false with
    | true => obtain ⟨x, hx, _⟩ := s.ent c hl; rw [hnc] at hx; cases hx
    | false => rfl
  induction fuel with
  | zero =>
    intro listed a w s hu he ho
    exfalso
    have hlt := (Array.getElem?_eq_some_iff.1 hi).1
    have hl := hun i0 h0 listed a s
    have hni : listed.getD i0 true = false := by
      have : i0 < listed.size := by rw [s.lsz]; exact hlt
      simp [this] at hl ⊢; exact hl
    have := unl_set hlt hni
    omega
  | succ fuel ih =>
    intro listed a w s hu he ho
    have hlt := (Array.getElem?_eq_some_iff.1 hi).1
    have hnl := hun i0 h0 listed a s
    have hni : listed.getD i0 true = false := by
      have : i0 < listed.size := by rw [s.lsz]; exact hlt
      simp [this] at hnl ⊢; exact hnl
    refine ⟨fun hnil => absurd hnil (ready_ne hac s.lsz i0 hlt hni), fun j hj => ?_⟩
    obtain ⟨h0, oj, hoj, hon⟩ := ready_lt hj
    have hjlt := (Array.getElem?_eq_some_iff.1 hoj).1
    by_cases hji : j ∈ cs
    · obtain ⟨o, l, hoj', hnj, hs, hg, hx⟩ := hc j hji
      rw [hoj] at hoj'; cases hoj'
      have hfit := s.fits hj hs
      have hw : Region.wanted oj (yielded ops a.tmps) = true := hg.wtd hfit
      unfold wpOp
      simp only [hoj]
      rw [hw, if_pos rfl]
      refine .inl (hx a w _ _ hfit ho fun x He' w' hxd ho' hqm => ?_)
      have hxm : oj.dst = x.map (·.1) := by
        cases x with
        | none => exact hxd
        | some e => exact hxd.1
      have hst := St.step (x := x) hds (s.cons (e := x) hnj) hj hoj (by simp [getP]) (fun q hq d' g' v' hq' => by
        rcases getP_cons' hq' with ⟨rfl, h⟩ | h
        · exact ⟨oj, hoj, by rw [hxm, ← h]; rfl⟩
        · exact hD q _ h) hxd
      refine hqm (fun q y hq => ?_) (fun q y hq' => ?_) fuel _ _ w' hst (by have := unl_set hjlt h0; omega) (fun q hq => ?_) ho'
      · rcases getP_cons' hq with ⟨rfl, _⟩ | hq
        · exact .inl (by simp)
        · rcases hQ q y hq with h | h
          · exact .inl (by simp [h])
          · exact .inr (h.cons hnj)
      · rcases getP_cons' hq' with ⟨rfl, rfl⟩ | h
        · exact ⟨oj, hoj, hxm⟩
        · exact hD q y h
      · rw [getD_set (by rw [s.lsz]; exact hjlt)]
        rcases List.mem_cons.1 hq with rfl | hq
        · exact .inl rfl
        · exact .inr (he q hq)
    · cases hp : getP p j with
      | none =>
        exfalso
        have := List.all_eq_true.1 hrest j (by simpa using hjlt)
        rw [hp, Option.isSome_none, Bool.or_false] at this
        rcases Bool.or_eq_true_iff.1 this with h | h
        · exact hji (List.contains_iff_mem.1 h)
        · obtain ⟨e, hem, h⟩ := List.any_eq_true.1 h
          have hnl := hun e hem listed a s
          rw [rest_ok s.down hon h] at hnl; cases hnl
      | some x =>
        rcases hQ j x hp with h | h
        · have := he j h
          rw [not_listed h0] at this; cases this
        · refine run_quiet hds hD s hj h ho fun a' w' s' ho' => ?_
          refine ih _ a' w' s' (by have := unl_set hjlt h0; omega) (fun q hq => ?_) ho'
          rw [getD_set (by rw [s.lsz]; exact hjlt)]
          exact .inr (he q hq)
theorem hx_e {i d : Nat} {l : List Src} (hd : o.dst = some d) (hN : Nat.blt d N = true) (hg : GdW ops (srcEnv p E0 l) o)
    (hx : OpX P N M ops o (srcEnv p E0 l) (He ++ Hq) (fun e h => ∃ v He', look e d = some (true, v) ∧ h = He' ++ Hq ∧ QM P F N M K ops E0 Hq ((i, some (d, true, v)) :: p) (i :: eff) He')) : HX P F N M K ops E0 Hq p eff He i o l := fun a w Kc Q hf ho hk => by
  have hw : Region.wanted o (yielded ops a.tmps) = true := hg.wtd hf
  have h := hx a w Kc Q hf ho (fun env' H' u w' hR hf' ho' => by
    obtain ⟨v, He', hlook, rfl, hqm⟩ := hR
    have hdN : d < N := by simpa using hN
    have hu' : u = v := by
      have := hf'.ok d true v hlook
      rw [hd] at this
      have hd' : d < a.tmps.size := by rw [hf.sz]; exact hdN
      simpa [Act.put, hd'] using this
    subst hu'
    rw [hd]
    exact hk (some (d, true, u)) He' w' ⟨hd, hdN⟩ ho' hqm)
  rw [hw, if_pos rfl] at h
  exact h
theorem srcEnv_ext (h : ∀ k, getP p k = getP p' k) : ∀ l : List Src, srcEnv p E0 l = srcEnv p' E0 l ∧ inP p l = inP p' l
  | [] => ⟨rfl, rfl⟩
  | .o j :: l => by
    obtain ⟨h1, h2⟩ := srcEnv_ext h l
    simp only [inP] at h2
    simp only [srcEnv, inP, List.all_cons, h j, h1, h2, and_self]
  | .k t :: l => by
    obtain ⟨h1, h2⟩ := srcEnv_ext h l
    simp only [inP] at h2
    simp only [srcEnv, inP, List.all_cons, h1, h2, and_self]
theorem QM.ext (h : ∀ k, getP p k = getP p' k) (he : ∀ k, k ∈ eff ↔ k ∈ eff') (hq : QM P F N M K ops E0 Hq p eff He) : QM P F N M K ops E0 Hq p' eff' He := fun hQ hD fuel listed a w s hu hE ho =>
  hq (fun i x hi => by
    rw [h i] at hi
    rcases hQ i x hi with h1 | ⟨o, d, g, v, l, h1, h2, h3, h4, h5, h6, h7⟩
    · exact .inl ((he i).2 h1)
    · obtain ⟨e1, e2⟩ := srcEnv_ext (E0 := E0) h l
      exact .inr ⟨o, d, g, v, l, h1, h2, h3, (h i).trans h4, h5, e2.trans h6, fun He => by rw [e1]; exact h7 He⟩) (fun i x hi => hD i x ((h i).symm.trans hi)) fuel listed a w
    ⟨s.dfr, s.sz, s.lsz, s.down, fun i hi => by obtain ⟨x, hx, hh⟩ := s.ent i hi; exact ⟨x, (h i).trans hx, hh⟩, s.e0⟩ hu (fun i hi => hE i ((he i).1 hi)) ho
theorem QM.ent {He' : List HP} (he : Ent (He ++ Hq) (He' ++ Hq)) (hq : QM P F N M K ops E0 Hq p eff He') : QM P F N M K ops E0 Hq p eff He := fun hQ hD fuel listed a w s hu hE ho => hq hQ hD fuel listed a w s hu hE (ho.ent he)
/-- Two variables that are made, one ahead of the other or the other way round. -/
theorem qm_alloc2 {i j di dj : Nat} {oi oj : Oper} {Ti Tj : TypeId} {zi zj : List Value} (zri : ZR P Ti zi) (zrj : ZR P Tj zj) (hac : acB ops = true) (hds : dstB ops = true) (hi : ops[i]? = some oi) (hj : ops[j]? = some oj) (hni : getP p i = Option.none) (hnj : getP p j = Option.none)
    (hdi : oi.dst = some di) (hdj : oj.dst = some dj) (hNi : Nat.blt di N = true) (hNj : Nat.blt dj N = true) (hne : Nat.beq i j = false) (hrest : restC ops p [i, j] = true) (hr1 : ∀ x, restB ops ((i, x) :: p) j = true) (hr2 : ∀ x, restB ops ((j, x) :: p) i = true)
    (hgi : oi.guard = Option.none) (hgj : oj.guard = Option.none) (hopi : oi.op = .alloc Ti) (hopj : oj.op = .alloc Tj)
    (h : ∀ bi bj, QM P F N M K ops E0 Hq ((j, some (dj, true, .pointer (some ⟨bj, 0, Option.none⟩))) :: (i, some (di, true, .pointer (some ⟨bi, 0, Option.none⟩))) :: p) (j :: i :: eff) (blk bj zj Tj :: blk bi zi Ti :: He)) : QM P F N M K ops E0 Hq p eff He := by
  have hij : ¬ i = j := fun e => by subst e; simp at hne
  have gw : ∀ (o : Oper) (q : Plan), o.guard = Option.none → GdW ops (srcEnv q E0 []) o := fun o q hg => ⟨true, .n hg, rfl⟩
  refine qm_any (cs := [i, j]) (i0 := i) (by simp) hac hds hrest fun c hc => ?_
  simp only [List.mem_cons, List.not_mem_nil, or_false] at hc
  rcases hc with rfl | rfl
  · refine ⟨oi, [], hi, hni, rfl, gw _ _ hgi, hx_e hdi hNi (gw _ _ hgi) ((gw _ _ hgi).opx (x_alloc (o := ung oi) zri hopi rfl hdi hNi fun bi => ⟨.pointer (some ⟨bi, 0, Option.none⟩), blk bi zi Ti :: He, by simp [look], rfl, ?_⟩))⟩
    refine qm_alloc zrj [] hac hds hj (by simp only [getP]; rw [beq_ne hij]; exact hnj) hdj hNj rfl (hr1 _) (gw _ _ hgj) hopj fun bj => ?_
    exact h bi bj
  · refine ⟨oj, [], hj, hnj, rfl, gw _ _ hgj, hx_e hdj hNj (gw _ _ hgj) ((gw _ _ hgj).opx (x_alloc (o := ung oj) zrj hopj rfl hdj hNj fun bj => ⟨.pointer (some ⟨bj, 0, Option.none⟩), blk bj zj Tj :: He, by simp [look], rfl, ?_⟩))⟩
    refine qm_alloc zri [] hac hds hi (by simp only [getP]; rw [beq_ne (fun e => hij e.symm)]; exact hni) hdi hNi rfl (hr2 _) (gw _ _ hgi) hopi fun bi => ?_
    refine QM.ent (He' := blk bj zj Tj :: blk bi zi Ti :: He) Ent.swap (QM.ext (fun k => ?_) (fun k => ?_) (h bi bj))
    · simp only [getP]
      by_cases e1 : i = k
      · have e2 : ¬ c = k := fun e => hij (e1.trans e.symm)
        rw [beq_ne e2]; rfl
      · rw [beq_ne e1]; rfl
    · simp only [List.mem_cons]
      constructor
      · rintro (h | h | h)
        · exact .inr (.inl h)
        · exact .inl h
        · exact .inr (.inr h)
      · rintro (h | h | h)
        · exact .inr (.inl h)
        · exact .inl h
        · exact .inr (.inr h)

/-! ### A barrier with some pure ones left -/
variable {x y : Operand} {u : Value}
def barX (ops : Array Oper) (p : Plan) (ex : List Nat) (i : Nat) : Bool := match ops[i]? with
  | some o => let r := reachL ops i (onsOf o); p.all fun e => ex.contains e.1 || r.contains e.1
  | Option.none => false
/-- The next of the plan waits for all of it: all that is owned may be turned. -/
theorem qm_barx {ex : List Nat} {i : Nat} {l : List Src} (hac : acB ops = true) (hds : dstB ops = true) (hi : ops[i]? = some o) (hn : getP p i = Option.none) (hs : srcB ops i l = true) (hrest : restB ops p i = true) (hbar : barX ops p ex i = true) (hex : ∀ e ∈ ex, ∀ x, getP p e = some x → QOk P M N ops E0 [] p e) (hg : GdW ops (srcEnv p E0 l) o)
    (hx : ∀ a w (Kc : Act → World → Prop) (Q : Exit → Act → World → Prop), Fits N (srcEnv p E0 l) a → Own M (He ++ Hq) w →
      (∀ x Hn w', entOk N o x → Own M Hn w' → QM P F N M K ops E0 [] ((i, x) :: p) (i :: (p.map (·.1)).filter fun q => !ex.contains q) Hn →
        Kc (putE a x) w') → o.wp P a w Kc Q) : QM P F N M K ops E0 Hq p eff He := by
  intro hQ hD fuel
  induction fuel with
  | zero =>
    intro listed a w s hu he ho
    exfalso
    have hlt := (Array.getElem?_eq_some_iff.1 hi).1
    have hni : listed.getD i true = false := by
      cases hl : listed.getD i false with
      | true => obtain ⟨x, hx, _⟩ := s.ent i hl; rw [hn] at hx; cases hx
      | false =>
        have : i < listed.size := by rw [s.lsz]; exact hlt
        simp [this] at hl ⊢; exact hl
    have := unl_set hlt hni
    omega
  | succ fuel ih =>
    intro listed a w s hu he ho
    have hlt := (Array.getElem?_eq_some_iff.1 hi).1
    have hnl : listed.getD i false = false := by
      cases hl : listed.getD i false with
      | true => obtain ⟨x, hx, _⟩ := s.ent i hl; rw [hn] at hx; cases hx
      | false => rfl
    have hni : listed.getD i true = false := by
      have : i < listed.size := by rw [s.lsz]; exact hlt
      simp [this] at hnl ⊢; exact hnl
    refine ⟨fun hnil => absurd hnil (ready_ne hac s.lsz i hlt hni), fun j hj => ?_⟩
    obtain ⟨h0, oj, hoj, hon⟩ := ready_lt hj
    by_cases hji : j = i
    · subst hji
      rw [hi] at hoj; cases hoj
      have hfit := s.fits hj hs
      have hw : Region.wanted o (yielded ops a.tmps) = true := hg.wtd hfit
      unfold wpOp
      simp only [hi]
      rw [hw, if_pos rfl]
      refine .inl (hx a w _ _ hfit ho fun x Hn w' hxd ho' hqm => ?_)
      have hxm : o.dst = x.map (·.1) := by
        cases x with
        | none => exact hxd
        | some e => exact hxd.1
      have hst := St.step (x := x) hds (s.cons (e := x) hn) hj hi (by simp [getP]) (fun q hq d' g' v' hq' => by
        rcases getP_cons' hq' with ⟨rfl, h⟩ | h
        · exact ⟨o, hi, by rw [hxm, ← h]; rfl⟩
        · exact hD q _ h) hxd
      have hall : ∀ q ∈ p.map (·.1), q ∉ ex → listed.getD q false = true := by
        intro q hq hqx
        obtain ⟨e, he', rfl⟩ := List.mem_map.1 hq
        simp only [barX, hi] at hbar
        have hc := List.all_eq_true.1 hbar e he'
        rcases Bool.or_eq_true_iff.1 hc with hc | hc
        · exact absurd (List.contains_iff_mem.1 hc) hqx
        refine reachL_ok (ops := ops) (Q := fun j => listed.getD j false = true) (fun i' h j' hj' => s.down i' h j' hj') j (onsOf o) (fun j' hj' => ?_) e.1 (List.contains_iff_mem.1 hc)
        exact hon j' (by simp only [onB, hi]; exact List.contains_iff_mem.2 hj')
      refine hqm (fun q y hq => ?_) (fun q y hq' => ?_) fuel _ _ w' hst (by have := unl_set hlt hni; omega) (fun q hq => ?_) (by rw [List.append_nil]; exact ho')
      · rcases getP_cons' hq with ⟨rfl, _⟩ | hq
        · exact .inl (by simp)
        · by_cases hqx : q ∈ ex
          · exact .inr ((hex q hqx y hq).cons hn)
          · exact .inl (by simp only [List.mem_cons, List.mem_filter]; exact .inr ⟨List.mem_map.2 ⟨_, getP_mem hq, rfl⟩, by simpa using hqx⟩)
      · rcases getP_cons' hq' with ⟨rfl, rfl⟩ | h
        · exact ⟨o, hi, hxm⟩
        · exact hD q y h
      · rw [getD_set (by rw [s.lsz]; exact hlt)]
        rcases List.mem_cons.1 hq with rfl | hq
        · exact .inl rfl
        · obtain ⟨h1, h2⟩ := List.mem_filter.1 hq
          exact .inr (hall q h1 (by simpa using h2))
    · cases hp : getP p j with
      | none =>
        exfalso
        have hjlt := (Array.getElem?_eq_some_iff.1 hoj).1
        have := List.all_eq_true.1 hrest j (by simpa using hjlt)
        rw [hp, Option.isSome_none, Bool.or_false] at this
        rcases Bool.or_eq_true_iff.1 this with h | h
        · exact hji (beq_iff_eq.1 h)
        · rw [rest_ok s.down hon h] at hnl; cases hnl
      | some x =>
        rcases hQ j x hp with h | h
        · have := he j h
          rw [not_listed h0] at this; cases this
        · refine run_quiet hds hD s hj h ho fun a' w' s' ho' => ?_
          have hjlt := (Array.getElem?_eq_some_iff.1 hoj).1
          refine ih _ a' w' s' (by have := unl_set hjlt h0; omega) (fun q hq => ?_) ho'
          rw [getD_set (by rw [s.lsz]; exact hjlt)]
          exact .inr (he q hq)

theorem exOne {e d : Nat} {l : List Src} {g : Bool} {v : Value} (hi : ops[e]? = some o) (hd : o.dst = some d) (hN : Nat.blt d N = true) (hp : getP p e = some (some (d, g, v))) (hs : srcB ops e l = true) (hin : inP p l = true) (hq : ∀ He, RQ P M ops o (srcEnv p E0 l) (He ++ []) g v) :
    ∀ e' ∈ [e], ∀ x, getP p e' = some x → QOk P M N ops E0 [] p e' := fun e' he' x hx => by
  simp at he'; subst he'
  exact ⟨o, d, g, v, l, hi, hd, by simpa using hN, hp, hs, hin, hq⟩
theorem qx_store {ex : List Nat} {i b j n : Nat} {T T' : TypeId} {cs cs' vs : List Value} {Re H2 : List HP} (hsz : SizeIs P T n) (l : List Src) (hac : acB ops = true) (hds : dstB ops = true) (hi : ops[i]? = some o) (hn : getP p i = Option.none) (hd : o.dst = Option.none) (hs : srcB ops i l = true) (hrest : restB ops p i = true) (hbar : barX ops p ex i = true) (hg : GdW ops (srcEnv p E0 l) o)
    (hex : ∀ e ∈ ex, ∀ x, getP p e = some x → QOk P M N ops E0 [] p e)
    [c : Cat He Hq H2] (hop : o.op = .store T x y) (hx : evo (srcEnv p E0 l) x = some (true, .pointer (some ⟨b, j, Option.none⟩))) [s : SelB H2 b cs T' Re] (hy : evo (srcEnv p E0 l) y = some (true, u)) (hu : u.cells = vs.toArray) (hvn : vs.length = n) (h1 : vs.all (·.oneCell') = true) (hin : Ins cs j vs cs')
    (h : QM P F N M K ops E0 [] ((i, Option.none) :: p) (i :: (p.map (·.1)).filter fun q => !ex.contains q) (blk b cs' T' :: Re)) : QM P F N M K ops E0 Hq p eff He :=
  qm_barx (l := l) hac hds hi hn hs hrest hbar hex hg fun a w Kc Q hf ho hk => by
    have hw : Region.wanted o (yielded ops a.tmps) = true := hg.wtd hf
    have hxx := (hg.opx (x_store (o := (ung o)) (P := P) (N := N) (M := M) (ops := ops) (H := He ++ Hq) (Rr := fun _ h => QM P F N M K ops E0 [] ((i, Option.none) :: p) (i :: (p.map (·.1)).filter fun q => !ex.contains q) h) hsz (by rw [c.eq]; exact s.ent) hop rfl hd hx hy hu hvn h1 hin h)) a w Kc Q hf ho (fun env' H' u w' hR hf' ho' => by
      rw [hd]
      exact hk Option.none H' w' hd ho' hR)
    rw [hw, if_pos rfl] at hxx
    exact hxx

end Go.Proofs.Ytmakdilmibjpbab
