/- Regions whose order is drawn: a variable that is made, beside two calls that make something new, one behind the other. -/
import Derived.Test.YtmakdilmibjpbabGreatDoorTwo
namespace Go.Proofs.YtmakdilmibjpbabGreatDoor
open Go Go.RowKit
set_option linter.unusedVariables false

variable {P : Program} {F : Exit → Act → World → Prop} {N : Nat} {M : Amb} {env eb : Env} {H H' R : List HP} {a : Act} {w : World} {ops : Array Oper} {o : Oper} {rest : List Oper} {K : List KI}
variable {E0 : Env} {Hq He : List HP} {p p' : Plan} {eff eff' : List Nat} {f : FuncId}

theorem entComm : ∀ {A B : List HP}, Ent (A ++ B) (B ++ A)
  | [], B => by rw [List.append_nil]; exact Ent.rfl
  | X :: A, B => Ent.tr (Ent.mono (entComm (A := A) (B := B))) (Ent.unA (Ent.rfl (H := X :: A)))
theorem FnN.on {α : Type} {vs : List Value} {A : List HP} {rt : α → Value} {New : α → List HP} (hc : FnN P M f vs A rt New) (s : SelL Hq A R) (He : List HP) : FnR P M (He ++ Hq) f vs (fun v H' => ∃ x, v = rt x ∧ H' = New x ++ (He ++ Hq)) := fun w ho =>
  (hc (R ++ He) w (ho.ent (Ent.tr entComm (Ent.tr (Ent.app s.ent) (by rw [List.append_assoc]; exact Ent.rfl))))).mono fun _ _ ⟨v, H', e, ⟨x, h1, h2⟩, ho'⟩ => ⟨v, _, e, ⟨x, h1, rfl⟩, by
    subst h2
    rw [List.append_assoc] at ho'
    exact ho'.ent (entPre (Ent.tr (by rw [← List.append_assoc]; exact Ent.app s.back) entComm))⟩
theorem getP_swap {i j : Nat} {x y : Option (Nat × Bool × Value)} (h : ¬ i = j) (p : Plan) (k : Nat) : getP ((i, x) :: (j, y) :: p) k = getP ((j, y) :: (i, x) :: p) k := by
  simp only [getP]
  by_cases e1 : i = k
  · have e2 : ¬ j = k := fun e => h (e1.trans e.symm)
    rw [beq_ne e2]; rfl
  · rw [beq_ne e1]; rfl
theorem getP_under {i : Nat} {x : Option (Nat × Bool × Value)} (h : ∀ k, getP p k = getP p' k) (k : Nat) : getP ((i, x) :: p) k = getP ((i, x) :: p') k := by
  simp only [getP, h k]
section calls
variable {d : Nat} {xs : List Operand} {vs : List Value} {at' : Array TypeId}
theorem qm_calln2 {i : Nat} {α : Type} {rt : α → Value} {New : α → List HP} (l : List Src) (hac : acB ops = true) (hds : dstB ops = true) (hi : ops[i]? = some o) (hn : getP p i = Option.none) (hd : o.dst = some d) (hN : Nat.blt d N = true) (hs : srcB ops i l = true) (hrest : restB ops p i = true) (hg : GdW ops (srcEnv p E0 l) o)
    (cf : cfB P f = true) (hop : o.op = .call { callee := .value (.func f), args := xs.toArray, argTypes := at' }) (ha : Args (srcEnv p E0 l) xs vs) (hc : FnR P M (He ++ Hq) f vs (fun v H' => ∃ x, v = rt x ∧ H' = New x ++ (He ++ Hq)))
    (h : ∀ x, QM P F N M K ops E0 Hq ((i, some (d, true, rt x)) :: p) (i :: eff) (New x ++ He)) : QM P F N M K ops E0 Hq p eff He :=
  qm_e l hac hds hi hn hd hN hs hrest hg (hg.opx (x_call (o := (ung o)) (Post := fun v H' => ∃ x, v = rt x ∧ H' = New x ++ (He ++ Hq)) cf hop rfl hd hN ha hc (by rintro _ _ ⟨x, rfl, rfl⟩; exact ⟨_, New x ++ He, by simp [look], by rw [List.append_assoc], h x⟩)))
theorem hx_calln2 {i : Nat} {α : Type} {rt : α → Value} {New : α → List HP} (l : List Src) (hd : o.dst = some d) (hN : Nat.blt d N = true) (hg : GdW ops (srcEnv p E0 l) o)
    (cf : cfB P f = true) (hop : o.op = .call { callee := .value (.func f), args := xs.toArray, argTypes := at' }) (ha : Args (srcEnv p E0 l) xs vs) (hc : FnR P M (He ++ Hq) f vs (fun v H' => ∃ x, v = rt x ∧ H' = New x ++ (He ++ Hq)))
    (h : ∀ x, QM P F N M K ops E0 Hq ((i, some (d, true, rt x)) :: p) (i :: eff) (New x ++ He)) : HX P F N M K ops E0 Hq p eff He i o l :=
  hx_e hd hN hg (hg.opx (x_call (o := (ung o)) (Post := fun v H' => ∃ x, v = rt x ∧ H' = New x ++ (He ++ Hq)) cf hop rfl hd hN ha hc (by rintro _ _ ⟨x, rfl, rfl⟩; exact ⟨_, New x ++ He, by simp [look], by rw [List.append_assoc], h x⟩)))
end calls
theorem qm_ann {i1 i2 j d1 d2 dj : Nat} {o1 o2 oj : Oper} {α β : Type} {rt1 : α → Value} {rt2 : β → Value} {X1 : α → HP} {X2 : β → HP} {xs1 xs2 : List Operand} {vs1 vs2 : List Value} {at1 at2 : Array TypeId} {f1 f2 : FuncId} {T : TypeId} {zs : List Value} {A1 A2 R1 R2 : List HP} {l1 l2 : List Src}
    (zr : ZR P T zs) (hac : acB ops = true) (hds : dstB ops = true) (h1 : ops[i1]? = some o1) (h2 : ops[i2]? = some o2) (hj : ops[j]? = some oj) (n1 : getP p i1 = Option.none) (n2 : getP p i2 = Option.none) (nj : getP p j = Option.none)
    (d1e : o1.dst = some d1) (d2e : o2.dst = some d2) (dje : oj.dst = some dj) (N1 : Nat.blt d1 N = true) (N2 : Nat.blt d2 N = true) (Nj : Nat.blt dj N = true) (e12 : Nat.beq i1 i2 = false) (e1j : Nat.beq i1 j = false) (e2j : Nat.beq i2 j = false)
    (s1 : srcB ops i1 l1 = true) (s2 : srcB ops i2 l2 = true) (c0 : restC ops p [j, i1] = true) (c1 : ∀ x, restC ops ((i1, x) :: p) [j, i2] = true)
    (r1 : ∀ y, restB ops ((j, y) :: p) i1 = true) (r2 : ∀ x y, restB ops ((i1, x) :: (j, y) :: p) i2 = true) (r2' : ∀ x y, restB ops ((j, y) :: (i1, x) :: p) i2 = true) (rj : ∀ x z, restB ops ((i2, z) :: (i1, x) :: p) j = true)
    (gj : oj.guard = Option.none) (g1 : o1.guard = Option.none) (g2 : o2.guard = Option.none) (hopj : oj.op = .alloc T) (cf1 : cfB P f1 = true) (cf2 : cfB P f2 = true) (hop1 : o1.op = .call { callee := .value (.func f1), args := xs1.toArray, argTypes := at1 }) (hop2 : o2.op = .call { callee := .value (.func f2), args := xs2.toArray, argTypes := at2 })
    (a1 : Args (srcEnv p E0 l1) xs1 vs1) (a1' : ∀ y, Args (srcEnv ((j, y) :: p) E0 l1) xs1 vs1) (a2 : ∀ x, Args (srcEnv ((i1, x) :: p) E0 l2) xs2 vs2) (a2' : ∀ x y, Args (srcEnv ((i1, x) :: (j, y) :: p) E0 l2) xs2 vs2) (a2'' : ∀ x y, Args (srcEnv ((j, y) :: (i1, x) :: p) E0 l2) xs2 vs2)
    [t1 : SelL Hq A1 R1] [t2 : SelL Hq A2 R2] (hc1 : FnN P M f1 vs1 A1 rt1 (fun x => [X1 x])) (hc2 : FnN P M f2 vs2 A2 rt2 (fun x => [X2 x]))
    (h : ∀ x1 x2 b, QM P F N M K ops E0 Hq ((i2, some (d2, true, rt2 x2)) :: (i1, some (d1, true, rt1 x1)) :: (j, some (dj, true, .pointer (some ⟨b, 0, Option.none⟩))) :: p) (i2 :: i1 :: j :: eff) (X2 x2 :: X1 x1 :: blk b zs T :: He)) : QM P F N M K ops E0 Hq p eff He := by
  have h12 : ¬ i1 = i2 := fun e => by subst e; simp at e12
  have h1j : ¬ i1 = j := fun e => by subst e; simp at e1j
  have h2j : ¬ i2 = j := fun e => by subst e; simp at e2j
  have gw : ∀ (o : Oper) (q : Plan) (l : List Src), o.guard = Option.none → GdW ops (srcEnv q E0 l) o := fun o q l hg => ⟨true, .n hg, rfl⟩
  have gp : ∀ {i k : Nat} {x : Option (Nat × Bool × Value)} {q : Plan}, ¬ i = k → getP q k = Option.none → getP ((i, x) :: q) k = Option.none := fun hne hq => by simp only [getP]; rw [beq_ne hne]; exact hq
  refine qm_any (cs := [j, i1]) (i0 := j) (by simp) hac hds c0 fun c hc => ?_
  simp only [List.mem_cons, List.not_mem_nil, or_false] at hc
  rcases hc with rfl | rfl
  · refine ⟨oj, [], hj, nj, rfl, gw _ _ _ gj, hx_e dje Nj (gw _ _ _ gj) ((gw _ _ [] gj).opx (x_alloc (o := ung oj) zr hopj rfl dje Nj fun b => ⟨.pointer (some ⟨b, 0, Option.none⟩), blk b zs T :: He, by simp [look], rfl, ?_⟩))⟩
    refine qm_calln2 (New := fun x => [X1 x]) l1 hac hds h1 (gp (fun e => h1j e.symm) n1) d1e N1 s1 (r1 _) (gw _ _ _ g1) cf1 hop1 (a1' _) (hc1.on t1 _) fun x => ?_
    refine qm_calln2 (New := fun x => [X2 x]) l2 hac hds h2 (gp h12 (gp (fun e => h2j e.symm) n2)) d2e N2 s2 (r2 _ _) (gw _ _ _ g2) cf2 hop2 (a2' _ _) (hc2.on t2 _) fun z => ?_
    exact h x z b
  · refine ⟨o1, l1, h1, n1, s1, gw _ _ _ g1, hx_calln2 (New := fun x => [X1 x]) l1 d1e N1 (gw _ _ _ g1) cf1 hop1 a1 (hc1.on t1 _) fun x => ?_⟩
    refine qm_any (cs := [j, i2]) (i0 := j) (by simp) hac hds (c1 _) fun c' hc' => ?_
    simp only [List.mem_cons, List.not_mem_nil, or_false] at hc'
    rcases hc' with rfl | rfl
    · refine ⟨oj, [], hj, gp h1j nj, rfl, gw _ _ _ gj, hx_e dje Nj (gw _ _ _ gj) ((gw _ _ [] gj).opx (x_alloc (o := ung oj) zr hopj rfl dje Nj fun b => ⟨.pointer (some ⟨b, 0, Option.none⟩), blk b zs T :: (([X1 x]) ++ He), by simp [look], rfl, ?_⟩))⟩
      refine qm_calln2 (New := fun x => [X2 x]) l2 hac hds h2 (gp (fun e => h2j e.symm) (gp h12 n2)) d2e N2 s2 (r2' _ _) (gw _ _ _ g2) cf2 hop2 (a2'' _ _) (hc2.on t2 _) fun z => ?_
      refine QM.ent (He' := X2 z :: X1 x :: blk b zs T :: He) (Ent.mono Ent.swap) (QM.ext (fun k => ?_) (fun k => ?_) (h x z b))
      · exact getP_under (getP_swap h1j p) k
      · simp only [List.mem_cons]; constructor <;> (rintro (q | q | q | q) <;> simp [q])
    · refine ⟨o2, l2, h2, gp h12 n2, s2, gw _ _ _ g2, hx_calln2 (New := fun x => [X2 x]) l2 d2e N2 (gw _ _ _ g2) cf2 hop2 (a2 _) (hc2.on t2 _) fun z => ?_⟩
      refine qm_alloc zr [] hac hds hj (gp h2j (gp h1j nj)) dje Nj rfl (rj _ _) (gw _ _ _ gj) hopj fun b => ?_
      refine QM.ent (He' := X2 z :: X1 x :: blk b zs T :: He) (Ent.tr Ent.swap (Ent.mono Ent.swap)) (QM.ext (fun k => ?_) (fun k => ?_) (h x z b))
      · exact (getP_under (getP_swap h1j p) k).trans (getP_swap h2j _ k)
      · simp only [List.mem_cons]; constructor <;> (rintro (q | q | q | q) <;> simp [q])
/-- A slice that is taken under a guard that says yes. -/
theorem pv_slcg {v : Value} {T E : TypeId} {x : Operand} {g : Bool} {sz l h : Nat} {lo hi : Option Operand} {rows : List (List Value)} {lv hv : Option Value} (hT : P.underlying T = some (.slice E)) (hE : SizeIs P E sz) (hr : Rd M H v sz rows) (h1 : l ≤ h) (h2 : h ≤ rows.length) (hgd : Gd ops env o g) (hop : o.op = .slice T x lo hi Option.none) (hx : evo env x = some (true, v))
    (hlo : lo = Option.none ∧ lv = Option.none ∧ l = 0 ∨ ∃ y kk, lo = some y ∧ evo env y = some (true, .int kk (l : Int)) ∧ lv = some (.int kk (l : Int))) (hhi : hi = Option.none ∧ hv = Option.none ∧ h = rows.length ∨ ∃ y kk, hi = some y ∧ evo env y = some (true, .int kk (h : Int)) ∧ hv = some (.int kk (h : Int))) :
    PV P ops o env g (resl v sz l h) := fun _ a hf => ⟨hgd.wanted hf, fun _ w => by
  obtain ⟨ao, cap, rfl, q1, q2, q3, q4⟩ := hr.is
  have e1 : lo.map a.eval = lv := by
    rcases hlo with ⟨rfl, rfl, _⟩ | ⟨y, kk, rfl, hy, rfl⟩
    · rfl
    · simp [hf.ev hy rfl]
  have e2 : hi.map a.eval = hv := by
    rcases hhi with ⟨rfl, rfl, _⟩ | ⟨y, kk, rfl, hy, rfl⟩
    · rfl
    · simp [hf.ev hy rfl]
  have hrun := run_slice (P := P) (ao := ao) (len := rows.length) (cap := cap) (l := l) (h := h) (lo := lv) (hi := hv) hT hE (by
    rcases hlo with ⟨_, h, h'⟩ | ⟨_, kk, _, _, h⟩
    · exact .inl ⟨h, h'⟩
    · exact .inr ⟨kk, h⟩) (by
    rcases hhi with ⟨_, h, h'⟩ | ⟨_, kk, _, _, h⟩
    · exact .inl ⟨h, h'⟩
    · exact .inr ⟨kk, h⟩) h1 (by omega) w
  simp [execOp, hop, hf.ev hx rfl, Instr.sliceAt, run_und hT, e1, e2, hrun, resl]⟩
theorem fnv_tru {α : Type} [DecidableEq α] {l : α} {vs : List Value} (h : FnV P M H f vs (.bool (decide (l = l)))) : FnV P M H f vs (.bool true) := by
  have e : decide (l = l) = true := by simp
  rw [e] at h; exact h

end Go.Proofs.YtmakdilmibjpbabGreatDoor
