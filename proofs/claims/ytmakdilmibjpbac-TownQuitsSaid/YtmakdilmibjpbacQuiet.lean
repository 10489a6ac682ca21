/- Operations that leave what is owned as it is, calls among them; a region of such operations, whose order is drawn, goes as the text goes. -/
import Derived.Test.YtmakdilmibjpbacShort
namespace Go.Proofs.Ytmakdilmibjpbac
open Go Go.RowKit

variable {P : Program} {F : Exit → Act → World → Prop} {N : Nat} {M : Amb} {env : Env} {H H' R : List HP} {a : Act} {w : World} {ops : Array Oper} {o : Oper} {rest : List Oper} {K : List KI}
variable {g gx gy gz : Bool} {x y z : Operand} {v v' u : Value} {Rr : Env → List HP → Prop} {f : FuncId} {fn : Func} {Post : Value → List HP → Prop}

/-- It gives v (where it is carried out), and what is owned stays. -/
def RQ (P : Program) (M : Amb) (ops : Array Oper) (o : Oper) (env : Env) (H : List HP) (g : Bool) (v : Value) : Prop :=
  ∀ (N : Nat) (a : Act) (w : World), Fits N env a → Own M H w → Region.wanted o (yielded ops a.tmps) = g ∧
    (g = true → ∀ (Kc : Act → World → Prop) (Q : Exit → Act → World → Prop), (∀ w', Own M H w' → Kc (a.put o.dst v) w') → o.wp P a w Kc Q)

theorem RV.rq (h : RV P M ops o env H g v) : RQ P M ops o env H g v := fun N a w hf ho => ⟨(h N a w hf ho).1, fun e Kc Q hK => by
  simp only [Oper.wp, (h N a w hf ho).2 e, Oper.upon_value]
  exact hK w ho⟩
theorem PV.rq (h : PV P ops o env g v) : RQ P M ops o env H g v := h.rv.rq

theorem x_q {d : Nat} (hp : RQ P M ops o env H g v) (hd : o.dst = some d) (hN : Nat.blt d N = true) (h : Rr ((d, g, v) :: env) H) : OpX P N M ops o env H Rr := fun a w Kc Q hf ho hK => by
  obtain ⟨hw, hr⟩ := hp N a w hf ho
  rw [hw]
  cases g with
  | true =>
    rw [if_pos rfl]
    refine hr rfl Kc Q fun w' ho' => ?_
    exact hK _ _ _ _ h (by rw [hd]; exact hf.put hN true v) ho'
  | false =>
    simp only [Bool.false_eq_true, if_false]
    exact hK _ _ _ _ h (by rw [hd]; exact hf.put hN false v) ho

inductive ArgsG (env : Env) (g : Bool) : List Operand → List Value → Prop
  | n : ArgsG env g [] []
  | c {x : Operand} {xs : List Operand} {gx : Bool} {v : Value} {vs : List Value} (h : evo env x = some (gx, v)) (hi : g = true → gx = true) (k : ArgsG env g xs vs) : ArgsG env g (x :: xs) (v :: vs)
theorem ArgsG.map {xs : List Operand} {vs : List Value} (h : ArgsG env g xs vs) (hf : Fits N env a) (hg : g = true) : xs.map a.eval = vs := by
  induction h with
  | n => rfl
  | c h hi k ih => simp [hf.ev h (hi hg), ih]

theorem rq_call {xs : List Operand} {vs : List Value} {at' : Array TypeId} (cf : cfB P f = true) (hg : Gd ops env o g) (hop : o.op = .call { callee := .value (.func f), args := xs.toArray, argTypes := at' })
    (ha : ArgsG env g xs vs) (hc : g = true → FnV P M H f vs v) : RQ P M ops o env H g v := fun N a w hf ho => ⟨hg.wanted hf, fun e Kc Q hK => by
  have hr : (execOp a.eval o).run P w = .ok (.enter f vs.toArray) w := by
    have hm := ha.map hf e
    simp [execOp, hop, resolve, Act.eval, Deferred.ofValue, invoke, run_callFunc cf]
    exact hm
  simp only [Oper.wp, hr, Oper.upon_enter]
  refine (hc e w ho).mono ?_
  rintro e w' ⟨v, H', rfl, ⟨rfl, rfl⟩, ho'⟩
  exact hK w' ho'⟩

/-! ### Regions whose order is drawn: a plan: quiet operations, and effects one behind the other -/

/-- The operations that one waits for. -/
def onsOf (o : Oper) : List Nat := (o.after.toList.filter (Region.binds .any)).map (·.on)
def onB (ops : Array Oper) (i j : Nat) : Bool := match ops[i]? with | some o => (onsOf o).contains j | Option.none => false

theorem countP_lt {α : Type} (p q : α → Bool) (hpq : ∀ x, q x = true → p x = true) : ∀ (l : List α) (k : α), k ∈ l → p k = true → q k = false → l.countP q < l.countP p
  | [], _, h, _, _ => by cases h
  | x :: l, k, h, hp, hq => by
    have hle : ∀ l : List α, l.countP q ≤ l.countP p := fun l => List.countP_mono_left (fun x _ h => hpq x h)
    rcases List.mem_cons.1 h with rfl | h
    · have := hle l
      simp only [List.countP_cons, hp, hq]
      simp only [if_true, Bool.false_eq_true, if_false]
      omega
    · have ih := countP_lt p q hpq l k h hp hq
      simp only [List.countP_cons]
      have : (if q x = true then 1 else 0) ≤ (if p x = true then 1 else 0) := by
        by_cases hx : q x = true
        · simp [hx, hpq x hx]
        · simp [hx]
      omega

/-- How many are still to come. -/
def unl (ops : Array Oper) (listed : Array Bool) : Nat := (List.range ops.size).countP (fun i => !listed.getD i true)

theorem getD_true {listed : Array Bool} {i : Nat} (h : listed.getD i true = false) : i < listed.size ∧ listed.getD i false = false := by
  rcases Nat.lt_or_ge i listed.size with h' | h'
  · refine ⟨h', ?_⟩; simp [h'] at h ⊢; exact h
  · simp [Array.getElem?_eq_none h'] at h

theorem unl_set {ops : Array Oper} {listed : Array Bool} {i : Nat} (hi : i < ops.size) (h : listed.getD i true = false) : unl ops (listed.setIfInBounds i true) < unl ops listed := by
  refine countP_lt _ _ (fun j hj => ?_) _ i (by simpa using hi) (by rw [h]; rfl) ?_
  · by_cases e : i = j
    · subst e; rw [h]; rfl
    · simpa [Array.getElem?_setIfInBounds_ne e] using hj
  · have := (getD_true h).1
    simp [this]


abbrev Plan := List (Nat × Option (Nat × Bool × Value))
def getP : Plan → Nat → Option (Option (Nat × Bool × Value))
  | [], _ => Option.none
  | (i, e) :: p, j => cond (Nat.beq i j) (some e) (getP p j)
/-- Where an operation's slots come from: an operation of the region; what was known ahead. -/
inductive Src where
  | o (j : Nat)
  | k (t : Nat)
def srcEnv (p : Plan) (E0 : Env) : List Src → Env
  | [] => []
  | .o j :: l => match getP p j with | some (some e) => e :: srcEnv p E0 l | _ => srcEnv p E0 l
  | .k t :: l => match look E0 t with | some x => (t, x) :: srcEnv p E0 l | Option.none => srcEnv p E0 l
/-- An operation may take its slots from there. -/
def srcB (ops : Array Oper) (i : Nat) (l : List Src) : Bool := l.all fun
  | .o j => onB ops i j
  | .k t => (List.range ops.size).all fun q => match ops[q]? with | some o => !(o.dst == some t) || onB ops q i | Option.none => true

structure St (N : Nat) (ops : Array Oper) (E0 : Env) (p : Plan) (listed : Array Bool) (a : Act) : Prop where
  dfr : a.defers = []
  sz : a.tmps.size = N
  lsz : listed.size = ops.size
  down : ∀ i, listed.getD i false = true → ∀ j, onB ops i j = true → listed.getD j false = true
  ent : ∀ i, listed.getD i false = true → ∃ x, getP p i = some x ∧ ∀ d g v, x = some (d, g, v) → a.tmps.getD d undef = cond g v undef
  e0 : ∀ t g v, look E0 t = some (g, v) → (∀ j o, listed.getD j false = true → ops[j]? = some o → o.dst ≠ some t) → a.tmps.getD t undef = cond g v undef

theorem look_src {p : Plan} {E0 : Env} : ∀ {l : List Src} {t : Nat} {x : Bool × Value}, look (srcEnv p E0 l) t = some x → (∃ j, Src.o j ∈ l ∧ getP p j = some (some (t, x))) ∨ (Src.k t ∈ l ∧ look E0 t = some x)
  | [], t, x, h => by simp [srcEnv, look] at h
  | .o j :: l, t, x, h => by
    have tl : look (srcEnv p E0 l) t = some x → (∃ j', Src.o j' ∈ Src.o j :: l ∧ getP p j' = some (some (t, x))) ∨ (Src.k t ∈ Src.o j :: l ∧ look E0 t = some x) := fun h => by
      rcases look_src h with ⟨j', h1, h2⟩ | ⟨h1, h2⟩
      · exact .inl ⟨j', by simp [h1], h2⟩
      · exact .inr ⟨by simp [h1], h2⟩
    simp only [srcEnv] at h
    split at h
    · rename_i e he
      obtain ⟨t', x'⟩ := e
      simp only [look] at h
      by_cases hne : t' = t
      · subst hne
        have : Nat.beq t' t' = true := by simp
        rw [this] at h; simp at h; subst h
        exact .inl ⟨j, by simp, he⟩
      · rw [beq_ne hne] at h; exact tl h
    · exact tl h
  | .k t' :: l, t, x, h => by
    have tl : look (srcEnv p E0 l) t = some x → (∃ j', Src.o j' ∈ Src.k t' :: l ∧ getP p j' = some (some (t, x))) ∨ (Src.k t ∈ Src.k t' :: l ∧ look E0 t = some x) := fun h => by
      rcases look_src h with ⟨j', h1, h2⟩ | ⟨h1, h2⟩
      · exact .inl ⟨j', by simp [h1], h2⟩
      · exact .inr ⟨by simp [h1], h2⟩
    simp only [srcEnv] at h
    split at h
    · rename_i x' hx'
      simp only [look] at h
      by_cases hne : t' = t
      · subst hne
        have : Nat.beq t' t' = true := by simp
        rw [this] at h; simp at h; subst h
        exact .inr ⟨by simp, hx'⟩
      · rw [beq_ne hne] at h; exact tl h
    · exact tl h

theorem ready_lt {ops : Array Oper} {listed : Array Bool} {i : Nat} (h : i ∈ Region.ready .any ops listed) : listed.getD i true = false ∧ ∃ o, ops[i]? = some o ∧ ∀ j, onB ops i j = true → listed.getD j false = true := by
  obtain ⟨h0, o, ho, hall⟩ := mem_ready.1 h
  refine ⟨h0, o, ho, fun j hj => ?_⟩
  simp only [onB, ho, onsOf] at hj
  have hj' := List.contains_iff_mem.1 hj
  obtain ⟨e, he, rfl⟩ := List.mem_map.1 hj'
  obtain ⟨h1, h2⟩ := List.mem_filter.1 he
  exact hall e (Array.mem_toList_iff.1 h1) h2

theorem not_listed {listed : Array Bool} {i : Nat} (h : listed.getD i true = false) : listed.getD i false = false := (getD_true h).2

/-- The frame that an operation of the plan meets when it comes up. -/
theorem St.fits {p : Plan} {E0 : Env} {listed : Array Bool} {i : Nat} {l : List Src} (s : St N ops E0 p listed a) (hi : i ∈ Region.ready .any ops listed) (hl : srcB ops i l = true) : Fits N (srcEnv p E0 l) a :=
  ⟨s.dfr, s.sz, fun t g v h => by
    obtain ⟨h0, o, ho, hon⟩ := ready_lt hi
    have hi0 := not_listed h0
    rcases look_src h with ⟨j, h1, h2⟩ | ⟨h1, h2⟩
    · have hj := List.all_eq_true.1 hl _ h1
      obtain ⟨x, hx, hv⟩ := s.ent j (hon j hj)
      rw [h2] at hx; cases hx
      exact hv t g v rfl
    · have ht := List.all_eq_true.1 hl _ h1
      refine s.e0 t g v h2 fun j o' hlj hoj hd => ?_
      have hlt := (Array.getElem?_eq_some_iff.1 hoj).1
      have := List.all_eq_true.1 ht j (by simpa using hlt)
      simp only [hoj, hd, beq_self_eq_true, Bool.not_true, Bool.false_or] at this
      have := s.down j hlj i this
      rw [hi0] at this; cases this⟩

theorem getD_set {listed : Array Bool} {i j : Nat} (hi : i < listed.size) : (listed.setIfInBounds i true).getD j false = true ↔ j = i ∨ listed.getD j false = true := by
  by_cases e : i = j
  · subst e; simp [hi]
  · simp [Array.getElem?_setIfInBounds_ne e]
    exact fun h => absurd h.symm e

/-- Each operation writes a slot of its own. -/
def dstB (ops : Array Oper) : Bool := (List.range ops.size).all fun i => (List.range ops.size).all fun j => match ops[i]?, ops[j]? with
  | some a, some b => i == j || a.dst.isNone || !(a.dst == b.dst)
  | _, _ => true
theorem dstB_spec {ops : Array Oper} (h : dstB ops = true) {i j : Nat} {o q : Oper} {d : Nat} (hi : ops[i]? = some o) (hj : ops[j]? = some q) (hd : o.dst = some d) (hq : q.dst = some d) : i = j := by
  have h1 := List.all_eq_true.1 h i (by simpa using (Array.getElem?_eq_some_iff.1 hi).1)
  have h2 := List.all_eq_true.1 h1 j (by simpa using (Array.getElem?_eq_some_iff.1 hj).1)
  simp only [hi, hj, hd, hq] at h2
  simpa using h2

def entOk (N : Nat) (o : Oper) : Option (Nat × Bool × Value) → Prop
  | some (d, _, _) => o.dst = some d ∧ d < N
  | Option.none => o.dst = Option.none
def putE (a : Act) : Option (Nat × Bool × Value) → Act
  | some (d, g, v) => a.put (some d) (cond g v undef)
  | Option.none => a
/-- Behind an operation: the plan's entry stands. -/
theorem St.step {p : Plan} {E0 : Env} {listed : Array Bool} {i : Nat} {x : Option (Nat × Bool × Value)} (hds : dstB ops = true) (s : St N ops E0 p listed a) (hi : i ∈ Region.ready .any ops listed) (ho : ops[i]? = some o) (hp : getP p i = some x)
    (hent : ∀ j, listed.getD j false = true → ∀ d g v, getP p j = some (some (d, g, v)) → ∃ q, ops[j]? = some q ∧ q.dst = some d)
    (hx : entOk N o x) : St N ops E0 p (listed.setIfInBounds i true) (putE a x) := by
  obtain ⟨h0, o', ho', hon⟩ := ready_lt hi
  rw [ho] at ho'; cases ho'
  have hlt := (getD_true h0).1
  have hn0 := not_listed h0
  have hput : ∀ (t d : Nat) (u : Value), ¬ d = t → (a.put (some d) u).tmps.getD t undef = a.tmps.getD t undef := fun t d u e => by
    simp only [Array.getD_eq_getD_getElem?, Act.put]
    rw [Array.getElem?_setIfInBounds_ne e]
  refine ⟨?_, ?_, by simp [s.lsz], fun j hj k hk => ?_, fun j hj => ?_, fun t g v ht hno => ?_⟩
  · cases x <;> exact s.dfr
  · cases x with
    | none => exact s.sz
    | some e => simp [putE, Act.put, s.sz]
  · rw [getD_set hlt] at hj ⊢
    rcases hj with rfl | hj
    · exact .inr (hon k hk)
    · exact .inr (s.down j hj k hk)
  · rw [getD_set hlt] at hj
    rcases hj with rfl | hj
    · refine ⟨x, hp, fun d g v e => ?_⟩
      subst e
      obtain ⟨h1, h2⟩ := hx
      have : d < a.tmps.size := by rw [s.sz]; exact h2
      simp [putE, Act.put, this]
    · obtain ⟨y, hy, hv⟩ := s.ent j hj
      refine ⟨y, hy, fun d g v e => ?_⟩
      cases x with
      | none => exact hv d g v e
      | some ex =>
        obtain ⟨d', g', v'⟩ := ex
        subst e
        obtain ⟨q, hq, hqd⟩ := hent j hj d g v hy
        have hne : ¬ d' = d := fun e' => by
          subst e'
          have := dstB_spec hds ho hq hx.1 hqd
          subst this
          rw [hn0] at hj; cases hj
        simp only [putE]
        rw [hput d d' _ hne]
        exact hv d g v rfl
  · have hno' : ∀ j q, listed.getD j false = true → ops[j]? = some q → q.dst ≠ some t := fun j q hj hq => hno j q ((getD_set hlt).2 (.inr hj)) hq
    have hold := s.e0 t g v ht hno'
    cases x with
    | none => exact hold
    | some ex =>
      obtain ⟨d', g', v'⟩ := ex
      have hne : ¬ d' = t := fun e' => by
        subst e'
        exact hno i o ((getD_set hlt).2 (.inl rfl)) ho hx.1
      simp only [putE]
      rw [hput t d' _ hne]
      exact hold

/-- All sources that are operations are in the plan. -/
def inP (p : Plan) (l : List Src) : Bool := l.all fun | .o j => (getP p j).isSome | .k _ => true

theorem getP_cons {p : Plan} {i j : Nat} {e : Option (Nat × Bool × Value)} {x : Option (Nat × Bool × Value)} (hn : getP p i = Option.none) (h : getP p j = some x) : getP ((i, e) :: p) j = some x := by
  have : ¬ i = j := fun he => by subst he; rw [hn] at h; cases h
  simp only [getP, beq_ne this]; exact h
theorem getP_cons' {p : Plan} {i j : Nat} {e x : Option (Nat × Bool × Value)} (h : getP ((i, e) :: p) j = some x) : (i = j ∧ x = e) ∨ getP p j = some x := by
  by_cases he : i = j
  · subst he; simp [getP] at h; exact .inl ⟨rfl, h.symm⟩
  · simp only [getP, beq_ne he] at h; exact .inr h
theorem srcEnv_cons {p : Plan} {i : Nat} {e : Option (Nat × Bool × Value)} {E0 : Env} (hn : getP p i = Option.none) : ∀ {l : List Src}, inP p l = true → srcEnv ((i, e) :: p) E0 l = srcEnv p E0 l ∧ inP ((i, e) :: p) l = true
  | [], _ => ⟨rfl, rfl⟩
  | .o j :: l, h => by
    simp only [inP, List.all_cons, Bool.and_eq_true] at h
    obtain ⟨h1, h2⟩ := h
    obtain ⟨x, hx⟩ := Option.isSome_iff_exists.1 h1
    obtain ⟨k1, k2⟩ := srcEnv_cons (e := e) (E0 := E0) hn (l := l) h2
    have hj := getP_cons (e := e) hn hx
    refine ⟨by simp only [srcEnv, hj, hx, k1], ?_⟩
    simp only [inP, List.all_cons, hj, Bool.and_eq_true]
    exact ⟨rfl, k2⟩
  | .k t :: l, h => by
    simp only [inP, List.all_cons, Bool.and_eq_true] at h
    obtain ⟨k1, k2⟩ := srcEnv_cons (e := e) (E0 := E0) hn (l := l) h.2
    refine ⟨by simp only [srcEnv, k1], ?_⟩
    simp only [inP, List.all_cons, Bool.and_eq_true]
    exact ⟨trivial, k2⟩

/-- A quiet operation of the plan, whatever lies beside what is owned. -/
def QOk (P : Program) (M : Amb) (N : Nat) (ops : Array Oper) (E0 : Env) (Hq : List HP) (p : Plan) (i : Nat) : Prop :=
  ∃ o d g v l, ops[i]? = some o ∧ o.dst = some d ∧ d < N ∧ getP p i = some (some (d, g, v)) ∧ srcB ops i l = true ∧ inP p l = true ∧ ∀ He, RQ P M ops o (srcEnv p E0 l) (He ++ Hq) g v

theorem QOk.cons {p : Plan} {E0 : Env} {i j : Nat} {e : Option (Nat × Bool × Value)} {Hq : List HP} (hn : getP p i = Option.none) (h : QOk P M N ops E0 Hq p j) : QOk P M N ops E0 Hq ((i, e) :: p) j := by
  obtain ⟨o, d, g, v, l, h1, h2, h3, h4, h5, h6, h7⟩ := h
  obtain ⟨k1, k2⟩ := srcEnv_cons (e := e) (E0 := E0) hn h6
  exact ⟨o, d, g, v, l, h1, h2, h3, getP_cons hn h4, h5, k2, fun He => by rw [k1]; exact h7 He⟩
theorem St.cons {p : Plan} {E0 : Env} {listed : Array Bool} {i : Nat} {e : Option (Nat × Bool × Value)} (s : St N ops E0 p listed a) (hn : getP p i = Option.none) : St N ops E0 ((i, e) :: p) listed a :=
  ⟨s.dfr, s.sz, s.lsz, s.down, fun j hj => let ⟨x, hx, h⟩ := s.ent j hj; ⟨x, getP_cons hn hx, h⟩, s.e0⟩

/-- The plan so far; what is owned beside Hq is He; 'eff': the effects that have come up. -/
def QM (P : Program) (F : Exit → Act → World → Prop) (N : Nat) (M : Amb) (K : List KI) (ops : Array Oper) (E0 : Env) (Hq : List HP) (p : Plan) (eff : List Nat) (He : List HP) : Prop :=
  (∀ i x, getP p i = some x → i ∈ eff ∨ QOk P M N ops E0 Hq p i) → (∀ i x, getP p i = some x → ∃ q, ops[i]? = some q ∧ q.dst = x.map (·.1)) →
  ∀ (fuel : Nat) (listed : Array Bool) (a : Act) (w : World), St N ops E0 p listed a → unl ops listed ≤ fuel → (∀ i ∈ eff, listed.getD i false = true) → Own M (He ++ Hq) w → wpAny P .any ops (post P F K) fuel listed a w

variable {E0 : Env} {Hq He : List HP} {p : Plan} {eff : List Nat}

/-- The next of the plan is quiet. -/
theorem qm_q {i d : Nat} {l : List Src} (hi : ops[i]? = some o) (hn : getP p i = Option.none) (hd : o.dst = some d) (hN : Nat.blt d N = true) (hs : srcB ops i l = true) (hin : inP p l = true)
    (hq : ∀ He, RQ P M ops o (srcEnv p E0 l) (He ++ Hq) g v) (k : QM P F N M K ops E0 Hq ((i, some (d, g, v)) :: p) eff He) : QM P F N M K ops E0 Hq p eff He := by
  intro hQ hD fuel listed a w s hu he ho
  have hN' : d < N := by simpa using hN
  refine k (fun j x hj => ?_) (fun j x hj => ?_) fuel listed a w (s.cons hn) hu he ho
  · rcases getP_cons' hj with ⟨rfl, rfl⟩ | hj
    · obtain ⟨k1, k2⟩ := srcEnv_cons (e := some (d, g, v)) (E0 := E0) hn hin
      exact .inr ⟨o, d, g, v, l, hi, hd, hN', by simp [getP], hs, k2, fun He => by rw [k1]; exact hq He⟩
    · exact (hQ j x hj).imp id (QOk.cons hn)
  · rcases getP_cons' hj with ⟨rfl, h⟩ | hj
    · cases h; exact ⟨o, hi, by rw [hd]; rfl⟩
    · exact hD j x hj

theorem run_quiet (hds : dstB ops = true) {fuel : Nat} {listed : Array Bool} {i : Nat} {Q : Exit → Act → World → Prop} (hD : ∀ i x, getP p i = some x → ∃ q, ops[i]? = some q ∧ q.dst = x.map (·.1))
    (s : St N ops E0 p listed a) (hi : i ∈ Region.ready .any ops listed) (hq : QOk P M N ops E0 Hq p i) (ho : Own M (He ++ Hq) w)
    (next : ∀ a' w', St N ops E0 p (listed.setIfInBounds i true) a' → Own M (He ++ Hq) w' → wpAny P .any ops Q fuel (listed.setIfInBounds i true) a' w') :
    wpOp P ops Q i (wpAny P .any ops Q fuel (listed.setIfInBounds i true)) a w := by
  obtain ⟨o, d, g, v, l, h1, h2, h3, h4, h5, _, h7⟩ := hq
  have hfit := s.fits hi h5
  obtain ⟨hw, hrun⟩ := h7 He N a w hfit ho
  have hst := St.step (x := some (d, g, v)) hds s hi h1 h4 (fun j _ d g v hj => hD j _ hj) ⟨h2, h3⟩
  unfold wpOp
  simp only [h1]
  rw [hw]
  cases g with
  | true =>
    rw [if_pos rfl]
    exact .inl (hrun rfl _ _ fun w' ho' => by rw [h2]; exact next _ w' hst ho')
  | false =>
    rw [if_neg (by simp), h2]
    exact next _ w hst ho

def reachL (ops : Array Oper) : Nat → List Nat → List Nat
  | 0, acc => acc
  | k + 1, acc => reachL ops k (cond (acc.contains k) (match ops[k]? with | some o => onsOf o ++ acc | Option.none => acc) acc)
theorem reachL_ok {Q : Nat → Prop} (hd : ∀ i, Q i → ∀ j, onB ops i j = true → Q j) : ∀ (k : Nat) (acc : List Nat), (∀ j ∈ acc, Q j) → ∀ j ∈ reachL ops k acc, Q j
  | 0, _, h => h
  | k + 1, acc, h => by
    refine reachL_ok hd k _ ?_
    cases hc : acc.contains k with
    | false => exact h
    | true =>
      have hk : Q k := h k (List.contains_iff_mem.1 hc)
      simp only [cond]
      cases ho : ops[k]? with
      | none => exact h
      | some o =>
        intro j hj
        rcases List.mem_append.1 hj with hj | hj
        · refine hd k hk j ?_
          simp only [onB, ho]
          exact List.contains_iff_mem.2 hj
        · exact h j hj

/-- Every operation that is not in the plan waits for e. -/
def restB (ops : Array Oper) (p : Plan) (e : Nat) : Bool := (List.range ops.size).all fun i => i == e || (getP p i).isSome || (onB ops i e || match ops[i]? with | some o => (reachL ops i (onsOf o)).contains e | Option.none => false)
theorem rest_ok {listed : Array Bool} {i e : Nat} (hd : ∀ i, listed.getD i false = true → ∀ j, onB ops i j = true → listed.getD j false = true) (hon : ∀ j, onB ops i j = true → listed.getD j false = true)
    (h : (onB ops i e || match ops[i]? with | some o => (reachL ops i (onsOf o)).contains e | Option.none => false) = true) : listed.getD e false = true := by
  rcases Bool.or_eq_true_iff.1 h with h | h
  · exact hon e h
  · cases ho : ops[i]? with
    | none => rw [ho] at h; cases h
    | some o =>
      rw [ho] at h
      refine reachL_ok (ops := ops) (Q := fun j => listed.getD j false = true) hd i (onsOf o) (fun j' hj' => hon j' ?_) e (List.contains_iff_mem.1 h)
      simp only [onB, ho]
      exact List.contains_iff_mem.2 hj'

def acB (ops : Array Oper) : Bool := (List.range ops.size).all fun i => match ops[i]? with | some o => (onsOf o).all (fun j => Nat.blt j i) | Option.none => true
theorem ready_ne (hac : acB ops = true) {listed : Array Bool} (hsz : listed.size = ops.size) : ∀ i, i < ops.size → listed.getD i true = false → Region.ready .any ops listed ≠ [] := by
  intro i
  induction i using Nat.strongRecOn with
  | _ i ih =>
    intro hi hni
    by_cases hr : i ∈ Region.ready .any ops listed
    · intro h; rw [h] at hr; cases hr
    · have hx : ∃ e, e ∈ (ops[i]).after ∧ Region.binds .any e = true ∧ listed.getD e.on false = false := by
        apply Classical.byContradiction
        intro hno
        refine hr (mem_ready.2 ⟨hni, ops[i], by simp [hi], fun e he hb => ?_⟩)
        cases hg : listed.getD e.on false with
        | true => rfl
        | false => exact absurd ⟨e, he, hb, hg⟩ hno
      obtain ⟨e, he, hb, hl⟩ := hx
      have h1 := List.all_eq_true.1 hac i (by simpa using hi)
      have hoi : ops[i]? = some ops[i] := by simp [hi]
      simp only [hoi] at h1
      have hlt : e.on < i := by
        have := List.all_eq_true.1 h1 e.on (by unfold onsOf; exact List.mem_map.2 ⟨e, List.mem_filter.2 ⟨Array.mem_toList_iff.2 he, hb⟩, rfl⟩)
        simpa using this
      refine ih e.on hlt (by omega) ?_
      have : e.on < listed.size := by omega
      simp [this] at hl ⊢; exact hl

/-- It runs: it has no guard, or one that lets it. -/
def GdW (ops : Array Oper) (env : Env) (o : Oper) : Prop := ∃ g, Gd ops env o g ∧ g = true
theorem GdW.wtd {env : Env} (h : GdW ops env o) (hf : Fits N env a) : Region.wanted o (yielded ops a.tmps) = true := by
  obtain ⟨g, h1, rfl⟩ := h; exact h1.wanted hf
def ung (o : Oper) : Oper := { o with guard := Option.none }
theorem GdW.opx {env : Env} {Rr : Env → List HP → Prop} (h : GdW ops env o) (hx : OpX P N M ops (ung o) env H Rr) : OpX P N M ops o env H Rr := fun a w Kc Q hf ho hK => by
  have h1 := hx a w Kc Q hf ho hK
  have h2 : Region.wanted (ung o) (yielded ops a.tmps) = true := by simp [Region.wanted, ung]
  rw [h2, if_pos rfl] at h1
  rw [h.wtd hf, if_pos rfl]
  exact h1

/-- The next of the plan turns something. -/
theorem qm_gen {i : Nat} {l : List Src} (hac : acB ops = true) (hds : dstB ops = true) (hi : ops[i]? = some o) (hn : getP p i = Option.none) (hs : srcB ops i l = true) (hrest : restB ops p i = true) (hg : GdW ops (srcEnv p E0 l) o)
    (hx : ∀ a w (Kc : Act → World → Prop) (Q : Exit → Act → World → Prop), Fits N (srcEnv p E0 l) a → Own M (He ++ Hq) w →
      (∀ x He' w', entOk N o x → Own M (He' ++ Hq) w' → QM P F N M K ops E0 Hq ((i, x) :: p) (i :: eff) He' →
        Kc (putE a x) w') → o.wp P a w Kc Q) : QM P F N M K ops E0 Hq p eff He := by
  intro hQ hD fuel
  induction fuel with
  | zero =>
    intro listed a w s hu he ho
    exfalso
    have hlt := (Array.getElem?_eq_some_iff.1 hi).1
    have hni : listed.getD i true = false := by
      cases hl : listed.getD i false with
      | true => obtain ⟨x, hx, _⟩ := s.ent i hl; rw [hn] at hx; cases hx
      | false =>
        have : i < listed.size := by rw [s.lsz]; exact hlt
        simp [this] at hl ⊢; exact hl
    have := unl_set hlt hni
    omega
  | succ fuel ih =>
    intro listed a w s hu he ho
    have hlt := (Array.getElem?_eq_some_iff.1 hi).1
    have hnl : listed.getD i false = false := by
      cases hl : listed.getD i false with
      | true => obtain ⟨x, hx, _⟩ := s.ent i hl; rw [hn] at hx; cases hx
      | false => rfl
    have hni : listed.getD i true = false := by
      have : i < listed.size := by rw [s.lsz]; exact hlt
      simp [this] at hnl ⊢; exact hnl
    refine ⟨fun hnil => absurd hnil (ready_ne hac s.lsz i hlt hni), fun j hj => ?_⟩
    obtain ⟨h0, oj, hoj, hon⟩ := ready_lt hj
    by_cases hji : j = i
    · subst hji
      rw [hi] at hoj; cases hoj
      have hfit := s.fits hj hs
      have hw : Region.wanted o (yielded ops a.tmps) = true := hg.wtd hfit
      unfold wpOp
      simp only [hi]
      rw [hw, if_pos rfl]
      refine .inl (hx a w _ _ hfit ho fun x He' w' hxd ho' hqm => ?_)
      have hxm : o.dst = x.map (·.1) := by
        cases x with
        | none => exact hxd
        | some e => exact hxd.1
      have hst := St.step (x := x) hds (s.cons (e := x) hn) hj hi (by simp [getP]) (fun q hq d' g' v' hq' => by
        rcases getP_cons' hq' with ⟨rfl, h⟩ | h
        · exact ⟨o, hi, by rw [hxm, ← h]; rfl⟩
        · exact hD q _ h) hxd
      refine hqm (fun q y hq => ?_) (fun q y hq' => ?_) fuel _ _ w' hst (by have := unl_set hlt hni; omega) (fun q hq => ?_) ho'
      · rcases getP_cons' hq with ⟨rfl, _⟩ | hq
        · exact .inl (by simp)
        · rcases hQ q y hq with h | h
          · exact .inl (by simp [h])
          · exact .inr (h.cons hn)
      · rcases getP_cons' hq' with ⟨rfl, rfl⟩ | h
        · exact ⟨o, hi, hxm⟩
        · exact hD q y h
      · rw [getD_set (by rw [s.lsz]; exact hlt)]
        rcases List.mem_cons.1 hq with rfl | hq
        · exact .inl rfl
        · exact .inr (he q hq)
    · cases hp : getP p j with
      | none =>
        exfalso
        have hjlt := (Array.getElem?_eq_some_iff.1 hoj).1
        have := List.all_eq_true.1 hrest j (by simpa using hjlt)
        rw [hp, Option.isSome_none, Bool.or_false] at this
        rcases Bool.or_eq_true_iff.1 this with h | h
        · exact hji (beq_iff_eq.1 h)
        · rw [rest_ok s.down hon h] at hnl; cases hnl
      | some x =>
        rcases hQ j x hp with h | h
        · have := he j h
          rw [not_listed h0] at this; cases this
        · refine run_quiet hds hD s hj h ho fun a' w' s' ho' => ?_
          have hjlt := (Array.getElem?_eq_some_iff.1 hoj).1
          refine ih _ a' w' s' (by have := unl_set hjlt h0; omega) (fun q hq => ?_) ho'
          rw [getD_set (by rw [s.lsz]; exact hjlt)]
          exact .inr (he q hq)

theorem qm_e {i d : Nat} (l : List Src) (hac : acB ops = true) (hds : dstB ops = true) (hi : ops[i]? = some o) (hn : getP p i = Option.none) (hd : o.dst = some d) (hN : Nat.blt d N = true) (hs : srcB ops i l = true) (hrest : restB ops p i = true) (hg : GdW ops (srcEnv p E0 l) o)
    (hx : OpX P N M ops o (srcEnv p E0 l) (He ++ Hq) (fun e h => ∃ v He', look e d = some (true, v) ∧ h = He' ++ Hq ∧ QM P F N M K ops E0 Hq ((i, some (d, true, v)) :: p) (i :: eff) He')) : QM P F N M K ops E0 Hq p eff He :=
  qm_gen (l := l) hac hds hi hn hs hrest hg fun a w Kc Q hf ho hk => by
    have hw : Region.wanted o (yielded ops a.tmps) = true := hg.wtd hf
    have h := hx a w Kc Q hf ho (fun env' H' u w' hR hf' ho' => by
      obtain ⟨v, He', hlook, rfl, hqm⟩ := hR
      have hdN : d < N := by simpa using hN
      have hu' : u = v := by
        have := hf'.ok d true v hlook
        rw [hd] at this
        have hd' : d < a.tmps.size := by rw [hf.sz]; exact hdN
        simpa [Act.put, hd'] using this
      subst hu'
      rw [hd]
      exact hk (some (d, true, u)) He' w' ⟨hd, hdN⟩ ho' hqm)
    rw [hw, if_pos rfl] at h
    exact h
theorem qm_s {i : Nat} (l : List Src) (hac : acB ops = true) (hds : dstB ops = true) (hi : ops[i]? = some o) (hn : getP p i = Option.none) (hd : o.dst = Option.none) (hs : srcB ops i l = true) (hrest : restB ops p i = true) (hg : GdW ops (srcEnv p E0 l) o)
    (hx : OpX P N M ops o (srcEnv p E0 l) (He ++ Hq) (fun _ h => ∃ He', h = He' ++ Hq ∧ QM P F N M K ops E0 Hq ((i, Option.none) :: p) (i :: eff) He')) : QM P F N M K ops E0 Hq p eff He :=
  qm_gen (l := l) hac hds hi hn hs hrest hg fun a w Kc Q hf ho hk => by
    have hw : Region.wanted o (yielded ops a.tmps) = true := hg.wtd hf
    have h := hx a w Kc Q hf ho (fun env' H' u w' hR hf' ho' => by
      obtain ⟨He', rfl, hqm⟩ := hR
      rw [hd]
      exact hk Option.none He' w' hd ho' hqm)
    rw [hw, if_pos rfl] at h
    exact h

def planEnv : Plan → Env
  | [] => []
  | (_, some e) :: p => e :: planEnv p
  | (_, Option.none) :: p => planEnv p
theorem look_plan : ∀ {p : Plan} {t : Nat} {x : Bool × Value}, look (planEnv p) t = some x → ∃ i, (i, some (t, x)) ∈ p
  | [], _, _, h => by cases h
  | (i, some e) :: p, t, x, h => by
    obtain ⟨t', x'⟩ := e
    simp only [planEnv, look] at h
    by_cases he : t' = t
    · subst he
      have : Nat.beq t' t' = true := by simp
      rw [this] at h; simp at h; subst h; exact ⟨i, by simp⟩
    · rw [beq_ne he] at h
      obtain ⟨i, hi⟩ := look_plan h
      exact ⟨i, by simp [hi]⟩
  | (_, Option.none) :: p, t, x, h => by
    obtain ⟨i, hi⟩ := look_plan (p := p) h
    exact ⟨i, by simp [hi]⟩
theorem plan_look : ∀ {p : Plan} {i t : Nat} {x : Bool × Value}, (i, some (t, x)) ∈ p → (look (planEnv p) t).isSome = true
  | [], _, _, _, h => by cases h
  | (j, some e) :: p, i, t, x, h => by
    obtain ⟨t', x'⟩ := e
    simp only [planEnv, look]
    by_cases he : t' = t
    · subst he
      have : Nat.beq t' t' = true := by simp
      rw [this]; rfl
    · rw [beq_ne he]
      rcases List.mem_cons.1 h with h | h
      · cases h; exact absurd rfl he
      · exact plan_look h
  | (_, Option.none) :: p, i, t, x, h => by
    rcases List.mem_cons.1 h with h | h
    · cases h
    · exact plan_look (p := p) h
theorem getP_mem : ∀ {p : Plan} {i : Nat} {e : Option (Nat × Bool × Value)}, getP p i = some e → (i, e) ∈ p
  | [], _, _, h => by cases h
  | (j, e') :: p, i, e, h => by
    by_cases he : j = i
    · subst he; simp [getP] at h; subst h; simp
    · simp only [getP, beq_ne he] at h
      exact List.mem_cons_of_mem _ (getP_mem h)
def onceB : Plan → Bool
  | [] => true
  | (i, _) :: p => (getP p i).isNone && onceB p
theorem mem_getP : ∀ {p : Plan}, onceB p = true → ∀ {i : Nat} {e : Option (Nat × Bool × Value)}, (i, e) ∈ p → getP p i = some e
  | [], _, _, _, h => by cases h
  | (j, e') :: p, ho, i, e, h => by
    simp only [onceB, Bool.and_eq_true] at ho
    rcases List.mem_cons.1 h with h | h
    · cases h; simp [getP]
    · have hp := mem_getP ho.2 h
      have : ¬ j = i := fun he => by subst he; rw [hp] at ho; simp at ho
      simp only [getP, beq_ne this]; exact hp

class Cat (A B : List HP) (C : outParam (List HP)) : Prop where
  eq : A ++ B = C
instance catN {B : List HP} : Cat [] B B := ⟨rfl⟩
instance catC {X : HP} {A B C : List HP} [c : Cat A B C] : Cat (X :: A) B (X :: C) := ⟨by rw [List.cons_append, c.eq]⟩
/-- All are in the plan. -/
theorem qm_n {e : Env} {H2 : List HP} [hcat : Cat He Hq H2] (hac : acB ops = true) (hds : dstB ops = true) (hone : onceB p = true) (hall : ((List.range ops.size).all fun i => (getP p i).isSome) = true) (k : Keep (planEnv p ++ E0) e) (h : Run P F N M K e H2) : QM P F N M K ops E0 Hq p eff He := by
  rw [← hcat.eq] at h
  intro hQ hD fuel
  have hdone : ∀ (listed : Array Bool) (a : Act) (w : World), St N ops E0 p listed a → Own M (He ++ Hq) w → Region.ready .any ops listed = [] → post P F K .normal a w := by
    intro listed a w s ho hr
    have hl : ∀ i, i < ops.size → listed.getD i false = true := fun i hi => by
      cases hg : listed.getD i true with
      | false => exact absurd hr (ready_ne hac s.lsz i hi hg)
      | true =>
        have : i < listed.size := by rw [s.lsz]; exact hi
        simp [this] at hg ⊢; exact hg
    refine h a w (Fits.keep ⟨s.dfr, s.sz, fun t g v hlook => ?_⟩ k) ho
    have ent : ∀ i x, (i, some (t, x)) ∈ p → a.tmps.getD t undef = cond x.1 x.2 undef := fun i x hm => by
      have hp := mem_getP hone hm
      obtain ⟨q, hq, _⟩ := hD i _ hp
      obtain ⟨y, hy, hv⟩ := s.ent i (hl i (Array.getElem?_eq_some_iff.1 hq).1)
      rw [hp] at hy; cases hy
      exact hv t x.1 x.2 rfl
    cases hpl : look (planEnv p) t with
    | some x =>
      obtain ⟨i, hi⟩ := look_plan hpl
      have hx : x = (g, v) := by
        have : ∀ (e1 e2 : Env) (t : Nat) (x y : Bool × Value), look e1 t = some x → look (e1 ++ e2) t = some y → x = y := by
          intro e1
          induction e1 with
          | nil => intro e2 t x y h; cases h
          | cons q e1 ih =>
            intro e2 t x y h1 h2
            obtain ⟨t', x'⟩ := q
            simp only [List.cons_append, look] at h1 h2
            cases hb : Nat.beq t' t with
            | true => rw [hb] at h1 h2; simp at h1 h2; rw [← h1, ← h2]
            | false => rw [hb] at h1 h2; exact ih e2 t x y h1 h2
        exact this _ _ _ _ _ hpl hlook
      subst hx
      exact ent i _ hi
    | none =>
      rcases look_app hlook with h' | h'
      · rw [hpl] at h'; cases h'
      · refine s.e0 t g v h' fun j o _ hoj hd => ?_
        have hjlt := (Array.getElem?_eq_some_iff.1 hoj).1
        have := List.all_eq_true.1 hall j (by simpa using hjlt)
        obtain ⟨x, hx⟩ := Option.isSome_iff_exists.1 this
        obtain ⟨q, hq, hqd⟩ := hD j x hx
        rw [hoj] at hq; cases hq
        rw [hd] at hqd
        cases x with
        | none => cases hqd
        | some ex =>
          obtain ⟨d', x'⟩ := ex
          simp at hqd; subst hqd
          have := plan_look (getP_mem hx)
          rw [hpl] at this; cases this
  induction fuel with
  | zero =>
    intro listed a w s hu he ho
    have hnil : Region.ready .any ops listed = [] := by
      cases hr : Region.ready .any ops listed with
      | nil => rfl
      | cons i is =>
        exfalso
        have hm : i ∈ Region.ready .any ops listed := by rw [hr]; simp
        obtain ⟨h0, o, hoi, _⟩ := mem_ready.1 hm
        have := unl_set (Array.getElem?_eq_some_iff.1 hoi).1 h0
        omega
    exact ⟨hnil, hdone listed a w s ho hnil⟩
  | succ fuel ih =>
    intro listed a w s hu he ho
    refine ⟨fun hnil => hdone listed a w s ho hnil, fun j hj => ?_⟩
    obtain ⟨h0, oj, hoj, hon⟩ := ready_lt hj
    have hjlt := (Array.getElem?_eq_some_iff.1 hoj).1
    have := List.all_eq_true.1 hall j (by simpa using hjlt)
    obtain ⟨x, hx⟩ := Option.isSome_iff_exists.1 this
    rcases hQ j x hx with h | h
    · have := he j h
      rw [not_listed h0] at this; cases this
    · refine run_quiet hds hD s hj h ho fun a' w' s' ho' => ?_
      refine ih _ a' w' s' (by have := unl_set hjlt h0; omega) (fun q hq => ?_) ho'
      rw [getD_set (by rw [s.lsz]; exact hjlt)]
      exact .inr (he q hq)

/-- A region whose order is drawn, by a plan: what stays (Hq), what may turn (He). -/
theorem r_plan {id : Nat} {ops : Array Oper} (Hq He : List HP) (hm : P.follows .mixedOrders = true) (k0 : Keep env E0) (he : Ent H (He ++ Hq)) (h : QM P F N M K ops E0 Hq [] [] He) : Run P F N M (.code (.region id ops true) :: K) env H := fun a w hf ho => by
  refine wp_region_any hm (h (fun _ _ h => by cases h) (fun _ _ h => by cases h) _ _ a _ ⟨hf.dfr, hf.sz, by simp, fun i hi => ?_, fun i hi => ?_, fun t g v ht _ => (hf.keep k0).ok t g v ht⟩ ?_ (fun _ h => by cases h) ((ho.ent he).drawn _))
  · exfalso
    rw [Array.getD_eq_getD_getElem?] at hi
    rcases Nat.lt_or_ge i ops.size with h | h <;> simp [h] at hi
  · exfalso
    rw [Array.getD_eq_getD_getElem?] at hi
    rcases Nat.lt_or_ge i ops.size with h | h <;> simp [h] at hi
  · unfold unl; exact Nat.le_trans List.countP_le_length (by simp)

theorem qm_box {i d : Nat} {T : TypeId} {cs : List Value} {x : Operand} (l : List Src) (hac : acB ops = true) (hds : dstB ops = true) (hi : ops[i]? = some o) (hn : getP p i = Option.none) (hd : o.dst = some d) (hN : Nat.blt d N = true) (hs : srcB ops i l = true) (hrest : restB ops p i = true) (hg : GdW ops (srcEnv p E0 l) o)
    (hop : o.op = .box T x) (hx : evo (srcEnv p E0 l) x = some (true, v)) (hc : v.cells = cs.toArray)
    (h : ∀ b, QM P F N M K ops E0 Hq ((i, some (d, true, .pointer (some ⟨b, 0, Option.none⟩))) :: p) (i :: eff) (blk b cs T :: He)) : QM P F N M K ops E0 Hq p eff He :=
  qm_e l hac hds hi hn hd hN hs hrest hg (hg.opx (x_box (o := (ung o)) hop rfl hd hN hx hc fun b => ⟨_, blk b cs T :: He, by simp [look], rfl, h b⟩))
theorem qm_alloc {i d : Nat} {T : TypeId} {zs : List Value} (zr : ZR P T zs) (l : List Src) (hac : acB ops = true) (hds : dstB ops = true) (hi : ops[i]? = some o) (hn : getP p i = Option.none) (hd : o.dst = some d) (hN : Nat.blt d N = true) (hs : srcB ops i l = true) (hrest : restB ops p i = true) (hg : GdW ops (srcEnv p E0 l) o)
    (hop : o.op = .alloc T) (h : ∀ b, QM P F N M K ops E0 Hq ((i, some (d, true, .pointer (some ⟨b, 0, Option.none⟩))) :: p) (i :: eff) (blk b zs T :: He)) : QM P F N M K ops E0 Hq p eff He :=
  qm_e l hac hds hi hn hd hN hs hrest hg (hg.opx (x_alloc (o := (ung o)) zr hop rfl hd hN fun b => ⟨_, blk b zs T :: He, by simp [look], rfl, h b⟩))
theorem qm_store {i b j n : Nat} {T T' : TypeId} {cs cs' vs : List Value} {x y : Operand} {Re : List HP} (hsz : SizeIs P T n) (l : List Src) (hac : acB ops = true) (hds : dstB ops = true) (hi : ops[i]? = some o) (hn : getP p i = Option.none) (hd : o.dst = Option.none) (hs : srcB ops i l = true) (hrest : restB ops p i = true) (hg : GdW ops (srcEnv p E0 l) o)
    (hop : o.op = .store T x y) (hx : evo (srcEnv p E0 l) x = some (true, .pointer (some ⟨b, j, Option.none⟩))) [s : SelB He b cs T' Re] (hy : evo (srcEnv p E0 l) y = some (true, u)) (hu : u.cells = vs.toArray) (hvn : vs.length = n) (h1 : vs.all (·.oneCell') = true) (hin : Ins cs j vs cs')
    (h : QM P F N M K ops E0 Hq ((i, Option.none) :: p) (i :: eff) (blk b cs' T' :: Re)) : QM P F N M K ops E0 Hq p eff He :=
  qm_s l hac hds hi hn hd hs hrest hg (hg.opx (x_store (o := (ung o)) hsz (Ent.app (A' := blk b cs T' :: Re) s.ent) hop rfl hd hx hy hu hvn h1 hin ⟨blk b cs' T' :: Re, rfl, h⟩))
theorem qm_append {i d sz bytes : Nat} {T E : TypeId} {x y : Operand} {rows rows2 : List (List Value)} {Re : List HP} (hT : P.underlying T = some (.slice E)) (hE : EL P E sz bytes) (hsz : 0 < sz) (l : List Src) (hac : acB ops = true) (hds : dstB ops = true) (hi : ops[i]? = some o) (hn : getP p i = Option.none) (hd : o.dst = some d) (hN : Nat.blt d N = true) (hs : srcB ops i l = true) (hrest : restB ops p i = true) (hg : GdW ops (srcEnv p E0 l) o)
    (hop : o.op = .call { callee := .builtin .append, args := #[x, y], argTypes := #[T, T] }) (hx : evo (srcEnv p E0 l) x = some (true, v)) (hy : evo (srcEnv p E0 l) y = some (true, u)) (he : Ent He (sl v E sz rows :: Re)) (hr : Rd M (He ++ Hq) u sz rows2)
    (hb : (rows.length + rows2.length) * bytes ≤ 140737488355328) (hm : rows.length + rows2.length ≤ maxLen)
    (h : ∀ v', QM P F N M K ops E0 Hq ((i, some (d, true, v')) :: p) (i :: eff) (sl v' E sz (rows ++ rows2) :: Re)) : QM P F N M K ops E0 Hq p eff He :=
  qm_e l hac hds hi hn hd hN hs hrest hg (hg.opx (x_append (o := (ung o)) hT hE hsz (Ent.app (A' := sl v E sz rows :: Re) he) hr hb hm hop rfl hd hN hx hy fun v' => ⟨v', sl v' E sz (rows ++ rows2) :: Re, by simp [look], rfl, h v'⟩))
/-- A call that turns what stands at the head of He. -/
theorem qm_call {i d : Nat} {xs : List Operand} {vs : List Value} {at' : Array TypeId} {Post : Value → List HP → Prop} (l : List Src) (hac : acB ops = true) (hds : dstB ops = true) (hi : ops[i]? = some o) (hn : getP p i = Option.none) (hd : o.dst = some d) (hN : Nat.blt d N = true) (hs : srcB ops i l = true) (hrest : restB ops p i = true) (hg : GdW ops (srcEnv p E0 l) o)
    (cf : cfB P f = true) (hop : o.op = .call { callee := .value (.func f), args := xs.toArray, argTypes := at' }) (ha : Args (srcEnv p E0 l) xs vs) (hc : FnR P M (He ++ Hq) f vs Post)
    (h : ∀ v H', Post v H' → ∃ He', H' = He' ++ Hq ∧ QM P F N M K ops E0 Hq ((i, some (d, true, v)) :: p) (i :: eff) He') : QM P F N M K ops E0 Hq p eff He :=
  qm_e l hac hds hi hn hd hN hs hrest hg (hg.opx (x_call (o := (ung o)) cf hop rfl hd hN ha hc fun v H' hp => let ⟨He', e, k⟩ := h v H' hp; ⟨v, He', by simp [look], e, k⟩))
theorem FnR.pre {vs : List Value} {Post : Value → List HP → Prop} (he : Ent H H') (h : FnR P M H' f vs Post) : FnR P M H f vs Post := fun w ho => h w (ho.ent he)
theorem FnR.post {vs : List Value} {Post Post' : Value → List HP → Prop} (h : FnR P M H f vs Post) (k : ∀ v H', Post v H' → Post' v H') : FnR P M H f vs Post' := fun w ho =>
  (h w ho).mono fun _ _ ⟨v, H', e, hp, ho'⟩ => ⟨v, H', e, k v H' hp, ho'⟩

end Go.Proofs.Ytmakdilmibjpbac
