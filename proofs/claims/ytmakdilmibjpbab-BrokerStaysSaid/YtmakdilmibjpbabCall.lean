/- The engine's laws on calls, returns and regions whose order is drawn. -/
import Derived.Test.YtmakdilmibjpbabOps
namespace Go.Proofs.Ytmakdilmibjpbab
open Go Go.RowKit

variable {P : Program} {F : Exit → Act → World → Prop} {N : Nat} {M : Amb} {env : Env} {H H' R : List HP} {a : Act} {w : World} {ops : Array Oper} {o : Oper} {rest : List Oper} {K : List KI}
variable {g gx gy gz : Bool} {x y z : Operand} {v v' : Value} {Rr : Env → List HP → Prop} {f : FuncId} {fn : Func} {Post : Value → List HP → Prop}

/-! ### Functions -/

def FnR (P : Program) (M : Amb) (H : List HP) (f : FuncId) (args : List Value) (Post : Value → List HP → Prop) : Prop :=
  ∀ w, Own M H w → Calls P f args.toArray w fun e w' => ∃ v H', e = .returned v ∧ Post v H' ∧ Own M H' w'
/-- It gives this value, and what is owned stays. -/
def FnV (P : Program) (M : Amb) (H : List HP) (f : FuncId) (args : List Value) (ret : Value) : Prop := FnR P M H f args (fun v H' => v = ret ∧ H' = H)

structure Fin (P : Program) (fn : Func) (M : Amb) (F : Exit → Act → World → Prop) (Post : Value → List HP → Prop) : Prop where
  ret : ∀ e, e = Exit.ret ∨ e = Exit.normal → ∀ a w v H', a.defers = [] → (results fn a.tmps).run P w = .ok v w → Post v H' → Own M H' w → F e a w
  np : ∀ c a w, ¬ F (.panic c) a w

def argEnv : Nat → List Value → Env
  | _, [] => []
  | i, v :: vs => (i, true, v) :: argEnv (i + 1) vs

theorem argEnv_look : ∀ (vs : List Value) (i t : Nat) (g : Bool) (v : Value), look (argEnv i vs) t = some (g, v) → g = true ∧ i ≤ t ∧ vs[t - i]? = some v
  | [], _, _, _, _, h => by simp [argEnv, look] at h
  | u :: vs, i, t, g, v, h => by
    simp only [argEnv, look] at h
    by_cases e : i = t
    · subst e
      have : Nat.beq i i = true := by simp
      rw [this] at h
      simp at h
      obtain ⟨rfl, rfl⟩ := h
      simp
    · rw [beq_ne e] at h
      obtain ⟨h1, h2, h3⟩ := argEnv_look vs (i + 1) t g v h
      refine ⟨h1, by omega, ?_⟩
      rw [show t - i = (t - (i + 1)) + 1 from by omega]
      simpa using h3

theorem fn_intro {c : Code} {vs : List Value} (hf : P.funcs[f]? = some fn) (hb : fn.body = some c) (hN : fn.ntmps = N) (hl' : Nat.ble vs.length N = true)
    (h : ∀ F, Fin P fn M F Post → Run P F N M [.code c] (argEnv 0 vs) H) : FnR P M H f vs Post := fun w ho => by
  have hl : vs.length ≤ N := Nat.le_of_ble_eq_true hl'
  refine calls_of_wp hf hb ?_
  have hfin : Fin P fn M (bodyPost P fn fun e w' => ∃ v H', e = .returned v ∧ Post v H' ∧ Own M H' w') Post := by
    refine ⟨fun e he a w v H' hd hr hp ho' => ?_, fun c a w hh => ?_⟩
    · rcases he with rfl | rfl <;> exact ⟨hd, v, hr, v, H', rfl, hp, ho'⟩
    · obtain ⟨_, v, H', hh, _⟩ := hh; cases hh
  have hrun := h _ hfin { tmps := vs.toArray ++ Array.replicate (fn.ntmps - vs.toArray.size) undef, defers := [] } w ⟨rfl, by simp [hN]; omega, fun t g v hv => ?_⟩ ho
  · refine wp_mono hrun fun e a w hq => ?_
    cases e <;> exact hq
  · obtain ⟨rfl, _, h3⟩ := argEnv_look vs 0 t g v hv
    simp only [Nat.sub_zero] at h3
    have hlt : t < vs.length := (List.getElem?_eq_some_iff.1 h3).1
    simp [Array.getElem?_append, hlt]
    exact (List.getElem?_eq_some_iff.1 h3).2

/-! ### The end of a function -/

inductive ResV (P : Program) (M : Amb) (env : Env) (H : List HP) : ResultVar → Value → Prop
  | t {t : Nat} {v : Value} (h : look env t = some (true, v)) : ResV P M env H (.tmp t) v
  | c {t ty b i : Nat} {v : Value} (h : look env t = some (true, .pointer (some ⟨b, i, Option.none⟩))) (tc : tcB P ty = true) (hc : CellAt M H b i v) : ResV P M env H (.cell t ty) v
  | a {t ty b i n : Nat} {vs : List Value} (h : look env t = some (true, .pointer (some ⟨b, i, Option.none⟩))) (ta : taB P ty n = true) (hc : CellsAt M H b i vs) (hn : vs.length = n) : ResV P M env H (.cell t ty) (.agg vs.toArray)

def resOne (tmps : Array Value) : ResultVar → Sem Value
  | .tmp t => pure (tmps.getD t undef)
  | .cell a t => do loadVar t (← asAddr (tmps.getD a undef))

theorem ResV.run {r : ResultVar} (h : ResV P M env H r v) (hf : Fits N env a) (ho : Own M H w) : (resOne a.tmps r).run P w = .ok v w := by
  cases h with
  | t h => have := hf.ok _ _ _ h; simp only [cond] at this; simp only [resOne, this]; rfl
  | c h tc hc => have := hf.ok _ _ _ h; simp only [cond] at this; simp [resOne, -Array.getD_eq_getD_getElem?, this, asAddr, run_loadVar_c tc (hc w ho)]
  | a h ta hc hn => have := hf.ok _ _ _ h; subst hn; simp only [cond] at this; simp [resOne, -Array.getD_eq_getD_getElem?, this, asAddr, run_loadVar_a ta (hc w ho)]

theorem results_eq (fn : Func) (tmps : Array Value) : results fn tmps = (do let vs ← fn.results.mapM (resOne tmps); pure (if h : vs.size = 1 then vs[0] else .tuple vs)) := by
  unfold results
  congr 1

inductive ResL (P : Program) (M : Amb) (env : Env) (H : List HP) : List ResultVar → List Value → Prop
  | n : ResL P M env H [] []
  | c {r : ResultVar} {rs : List ResultVar} {v : Value} {vs : List Value} (h : ResV P M env H r v) (k : ResL P M env H rs vs) : ResL P M env H (r :: rs) (v :: vs)

theorem ResL.run {rs : List ResultVar} {vs : List Value} (h : ResL P M env H rs vs) (hf : Fits N env a) (ho : Own M H w) : (rs.mapM (resOne a.tmps)).run P w = .ok vs w := by
  induction h with
  | n => simp
  | c h k ih => simp [List.mapM_cons, h.run hf ho, ih]

def resVal : List Value → Value
  | [v] => v
  | vs => .tuple vs.toArray

theorem res_run {rs : List ResultVar} {vs : List Value} (he : fn.results = rs.toArray) (h : ResL P M env H rs vs) (hf : Fits N env a) (ho : Own M H w) : (results fn a.tmps).run P w = .ok (resVal vs) w := by
  rw [results_eq, he, List.mapM_toArray]
  have := h.run hf ho
  match vs, this with
  | [], this => simp [this, resVal]
  | [v], this => simp [this, resVal]
  | v1 :: v2 :: vs, this => simp [this, resVal]

theorem r_reth (H' : List HP) {rs : List ResultVar} {vs : List Value} (hF : Fin P fn M F Post) (he : fn.results = rs.toArray) (hr : ResL P M env H rs vs) (hent : Ent H H') (hp : Post (resVal vs) H') : Run P F N M (.code .ret :: K) env H :=
  r_ret_raw fun _ _ hf ho => hF.ret _ (.inl rfl) _ _ _ _ hf.dfr (res_run he hr hf ho) hp (ho.ent hent)
theorem r_ret {rs : List ResultVar} {vs : List Value} (hF : Fin P fn M F Post) (he : fn.results = rs.toArray) (hr : ResL P M env H rs vs) (hent : Ent H H') (hp : Post (resVal vs) H') : Run P F N M (.code .ret :: K) env H :=
  r_ret_raw fun _ _ hf ho => hF.ret _ (.inl rfl) _ _ _ _ hf.dfr (res_run he hr hf ho) hp (ho.ent hent)
theorem r_retv {rs : List ResultVar} {vs : List Value} {ret : Value} {H0 : List HP} (hF : Fin P fn M F (fun v H' => v = ret ∧ H' = H0)) (he : fn.results = rs.toArray) (hr : ResL P M env H rs vs) (hent : Ent H H0) (hp : resVal vs = ret) : Run P F N M (.code .ret :: K) env H :=
  r_ret hF he hr hent ⟨hp, rfl⟩
/-- The end of the body without a return. -/
theorem r_fall (H' : List HP) (hF : Fin P fn M F Post) (he : fn.results = #[]) (hent : Ent H H') (hp : Post (.tuple #[]) H') : Run P F N M [] env H :=
  fun _ _ hf ho => hF.ret _ (.inr rfl) _ _ _ _ hf.dfr (res_run (rs := []) (vs := []) he .n hf ho) hp (ho.ent hent)

/-! ### Calls -/

def cfB (P : Program) (f : FuncId) : Bool := match P.funcs[f]? with
  | some fn => fn.body.isSome && !(fn.name == "runtime.NumGoroutine")
  | Option.none => false

inductive Args (env : Env) : List Operand → List Value → Prop
  | n : Args env [] []
  | c {x : Operand} {xs : List Operand} {v : Value} {vs : List Value} (h : evo env x = some (true, v)) (k : Args env xs vs) : Args env (x :: xs) (v :: vs)
theorem Args.map {xs : List Operand} {vs : List Value} (h : Args env xs vs) (hf : Fits N env a) : xs.map a.eval = vs := by
  induction h with
  | n => rfl
  | c h k ih => simp [hf.ev h rfl, ih]

theorem run_callFunc {args : Array Value} (cf : cfB P f = true) : (callFunc f args).run P w = .ok (.enter f args) w := by
  unfold cfB at cf
  split at cf
  · rename_i fn hfn
    simp at cf
    obtain ⟨h1, h2⟩ := cf
    obtain ⟨c, hc⟩ := Option.isSome_iff_exists.1 h1
    simp [callFunc, hfn, h2, hc]
  · cases cf

theorem x_call {xs : List Operand} {vs : List Value} {at' : Array TypeId} {d : Nat} (cf : cfB P f = true) (hop : o.op = .call { callee := .value (.func f), args := xs.toArray, argTypes := at' }) (hgd : o.guard = Option.none)
    (hd : o.dst = some d) (hN : Nat.blt d N = true) (ha : Args env xs vs) (hc : FnR P M H f vs Post) (h : ∀ v H', Post v H' → Rr ((d, true, v) :: env) H') : OpX P N M ops o env H Rr := fun a w Kc Q hf ho hK => by
  have hw : Region.wanted o (yielded ops a.tmps) = true := by simp [Region.wanted, hgd]
  rw [hw, if_pos rfl]
  have hr : (execOp a.eval o).run P w = .ok (.enter f vs.toArray) w := by
    have hm := ha.map hf
    simp [execOp, hop, resolve, Act.eval, Deferred.ofValue, invoke, run_callFunc cf]
    exact hm
  simp only [Oper.wp, hr, Oper.upon_enter]
  refine (hc w ho).mono ?_
  rintro e w' ⟨v, H', rfl, hp, ho'⟩
  exact hK _ _ _ _ (h v H' hp) (by rw [hd]; exact hf.put hN true v) ho'
theorem x_callv {xs : List Operand} {vs : List Value} {at' : Array TypeId} {d : Nat} (cf : cfB P f = true) (hop : o.op = .call { callee := .value (.func f), args := xs.toArray, argTypes := at' }) (hgd : o.guard = Option.none)
    (hd : o.dst = some d) (hN : Nat.blt d N = true) (ha : Args env xs vs) (hc : FnV P M H f vs v) (h : Rr ((d, true, v) :: env) H) : OpX P N M ops o env H Rr :=
  x_call cf hop hgd hd hN ha hc (by rintro _ _ ⟨rfl, rfl⟩; exact h)
/-- A call whose results are let go. -/
theorem x_call0 {xs : List Operand} {vs : List Value} {at' : Array TypeId} (cf : cfB P f = true) (hop : o.op = .call { callee := .value (.func f), args := xs.toArray, argTypes := at' }) (hgd : o.guard = Option.none)
    (hd : o.dst = Option.none) (ha : Args env xs vs) (hc : FnR P M H f vs Post) (h : ∀ v H', Post v H' → Rr env H') : OpX P N M ops o env H Rr := fun a w Kc Q hf ho hK => by
  have hw : Region.wanted o (yielded ops a.tmps) = true := by simp [Region.wanted, hgd]
  rw [hw, if_pos rfl]
  have hr : (execOp a.eval o).run P w = .ok (.enter f vs.toArray) w := by
    have hm := ha.map hf
    simp [execOp, hop, resolve, Act.eval, Deferred.ofValue, invoke, run_callFunc cf]
    exact hm
  simp only [Oper.wp, hr, Oper.upon_enter]
  refine (hc w ho).mono ?_
  rintro e w' ⟨v, H', rfl, hp, ho'⟩
  exact hK _ _ _ _ (h v H' hp) (by simpa [Act.put, hd] using hf) ho'

/-- A guarded group: the guard's slot is parted on. -/
theorem o_split {t : Nat} {b : Bool} (hl : look env t = some (true, .bool b)) (ht : b = true → Ops P F N M K ops rest ((t, true, .bool true) :: env) H) (hf : b = false → Ops P F N M K ops rest ((t, true, .bool false) :: env) H) :
    Ops P F N M K ops rest env H := fun a w hfit ho => by
  have hv := hfit.ok t _ _ hl
  have fits' : ∀ c : Bool, b = c → Fits N ((t, true, .bool c) :: env) a := fun c hc => ⟨hfit.dfr, hfit.sz, fun t' g' v' hl' => by
    simp only [look] at hl'
    by_cases e : t = t'
    · subst e
      have : Nat.beq t t = true := by simp
      rw [this] at hl'; simp at hl'
      obtain ⟨rfl, rfl⟩ := hl'
      subst hc; exact hv
    · rw [beq_ne e] at hl'; exact hfit.ok t' g' v' hl'⟩
  cases hb : b with
  | true => exact ht hb a w (fits' true hb) ho
  | false => exact hf hb a w (fits' false hb) ho
/-- An operation whose guard says no. -/
theorem o_pass {d : Nat} {v : Value} (hg : Gd ops env o false) (hd : o.dst = some d) (hN : Nat.blt d N = true) (h : Ops P F N M K ops rest ((d, false, v) :: env) H) : Ops P F N M K ops (o :: rest) env H :=
  l_op fun a w Kc Q hf ho hK => by
    rw [hg.wanted hf]
    simp only [Bool.false_eq_true, if_false]
    exact hK _ _ _ _ h (by rw [hd]; exact hf.put hN false _) ho

/-! ### Regions whose order is drawn -/

def Any (P : Program) (F : Exit → Act → World → Prop) (N : Nat) (M : Amb) (K : List KI) (ops : Array Oper) (fuel : Nat) (listed : Array Bool) (env : Env) (H : List HP) : Prop :=
  ∀ a w, Fits N env a → Own M H w → wpAny P .any ops (post P F K) fuel listed a w

theorem r_draw {id : Nat} {ops : Array Oper} (hm : P.follows .mixedOrders = true) (h : Any P F N M K ops ops.size (Array.replicate ops.size false) env H) : Run P F N M (.code (.region id ops true) :: K) env H :=
  fun a _ hf ho => wp_region_any hm (h a _ hf (ho.drawn _))

theorem post_panic {c : List PanicEntry} : ∀ {K : List KI}, post P F K (.panic c) = F (.panic c)
  | [] => rfl
  | .blk _ :: K => by funext a w; exact congrFun (congrFun (post_panic (K := K)) a) w
  | .code _ :: K => by funext a w; exact congrFun (congrFun (post_panic (K := K)) a) w
  | .goal _ :: K => by funext a w; exact congrFun (congrFun (post_panic (K := K)) a) w

def tkB (ops : Array Oper) (listed : Array Bool) (i : Nat) : Bool := Region.noSelect ops && Region.free .any ops listed i && (Region.ready .any ops listed).contains i

theorem a_take {fuel i d : Nat} {listed : Array Bool} (hF : Fin P fn M F Post) (hi : ops[i]? = some o) (tk : tkB ops listed i = true) (hp : PV P ops o env g v) (hd : o.dst = some d) (hN : Nat.blt d N = true)
    (h : Any P F N M K ops fuel (listed.setIfInBounds i true) ((d, g, v) :: env) H) : Any P F N M K ops (fuel + 1) listed env H := fun a w hf ho => by
  simp only [tkB, Bool.and_eq_true] at tk
  obtain ⟨hw, hr⟩ := hp N a hf
  refine wpAny_take (v := cond g v undef) hi tk.1.1 tk.1.2 tk.2 (fun c a w hq => absurd (by rw [post_panic] at hq; exact hq) (hF.np c _ w)) ?_ ?_
  · cases g with
    | true => exact .inl ⟨hw, hr rfl⟩
    | false => exact .inr ⟨hw, rfl⟩
  · rw [hd]
    exact h _ _ (hf.put hN g v) ho

def AllR (P : Program) (F : Exit → Act → World → Prop) (N : Nat) (M : Amb) (K : List KI) (ops : Array Oper) (fuel : Nat) (listed : Array Bool) (env : Env) (H : List HP) (rs : List Nat) : Prop :=
  ∀ i ∈ rs, ∃ o, ops[i]? = some o ∧ OpX P N M ops o env H (fun e h => Any P F N M K ops fuel (listed.setIfInBounds i true) e h)
theorem ar_n {fuel : Nat} {listed : Array Bool} : AllR P F N M K ops fuel listed env H [] := fun _ h => by cases h
theorem ar_c {fuel i : Nat} {listed : Array Bool} {rs : List Nat} (hi : ops[i]? = some o) (h : OpX P N M ops o env H (fun e h => Any P F N M K ops fuel (listed.setIfInBounds i true) e h)) (k : AllR P F N M K ops fuel listed env H rs) :
    AllR P F N M K ops fuel listed env H (i :: rs) := fun j hj => by
  rcases List.mem_cons.1 hj with rfl | hj
  · exact ⟨o, hi, h⟩
  · exact k j hj
theorem a_all {fuel : Nat} {listed : Array Bool} (rs : List Nat) (hr : Region.ready .any ops listed = rs) (hne : rs ≠ []) (h : AllR P F N M K ops fuel listed env H rs) : Any P F N M K ops (fuel + 1) listed env H := fun a w hf ho => by
  refine wpAny_all hr hne fun i hi => ?_
  obtain ⟨o, hoi, hx⟩ := h i hi
  refine wpOp_step hoi fun K' hK' => ?_
  exact hx a w K' _ hf ho fun e' H' _ w' hr' hf' ho' => hK' _ _ (hr' _ w' hf' ho')
/-- One alone may come up. -/
theorem a_one {fuel i : Nat} {listed : Array Bool} (hr : Region.ready .any ops listed = [i]) (hi : ops[i]? = some o) (h : OpX P N M ops o env H (fun e h => Any P F N M K ops fuel (listed.setIfInBounds i true) e h)) :
    Any P F N M K ops (fuel + 1) listed env H := a_all [i] hr (by simp) (ar_c hi h ar_n)
theorem a_done {fuel : Nat} {listed : Array Bool} {e : Env} (hr : Region.ready .any ops listed = []) (k : Keep env e) (h : Run P F N M K e H) : Any P F N M K ops fuel listed env H :=
  fun a w hf ho => wpAny_done hr (h a w (hf.keep k) ho) fuel
theorem a_split {fuel t : Nat} {listed : Array Bool} {b : Bool} (hl : look env t = some (true, .bool b)) (ht : b = true → Any P F N M K ops fuel listed ((t, true, .bool true) :: env) H) (hf : b = false → Any P F N M K ops fuel listed ((t, true, .bool false) :: env) H) :
    Any P F N M K ops fuel listed env H := fun a w hfit ho => by
  have hv := hfit.ok t _ _ hl
  have fits' : ∀ c : Bool, b = c → Fits N ((t, true, .bool c) :: env) a := fun c hc => ⟨hfit.dfr, hfit.sz, fun t' g' v' hl' => by
    simp only [look] at hl'
    by_cases e : t = t'
    · subst e
      have : Nat.beq t t = true := by simp
      rw [this] at hl'; simp at hl'
      obtain ⟨rfl, rfl⟩ := hl'
      subst hc; exact hv
    · rw [beq_ne e] at hl'; exact hfit.ok t' g' v' hl'⟩
  cases hb : b with
  | true => exact ht hb a w (fits' true hb) ho
  | false => exact hf hb a w (fits' false hb) ho

/-! ### Loops over what is kept -/

theorem look_app {e1 e2 : Env} : ∀ {t : Nat} {x : Bool × Value}, look (e1 ++ e2) t = some x → look e1 t = some x ∨ look e2 t = some x := by
  induction e1 with
  | nil => intro t x h; exact .inr h
  | cons p e1 ih =>
    intro t x h
    obtain ⟨t', q⟩ := p
    simp only [List.cons_append, look] at h ⊢
    cases hb : Nat.beq t' t with
    | true => rw [hb] at h; exact .inl h
    | false => rw [hb] at h; exact ih h

theorem Keep.app {env e1 e2 : Env} (h : Keep env e1) (k : Keep env e2) : Keep env (e1 ++ e2) := by
  induction h with
  | n => exact k
  | c t h _ ih => exact .c t h ih

/-- A loop: of the slots that it turns E tells, round by round; the others stay. -/
theorem r_loop' {α : Type} {c : Code} (E : α → Env) {eb : Env} (hb : Keep env eb) (Hh : α → List HP) (Inv : α → Prop) (μ : α → Nat) (x0 : α) (hi : Inv x0) (hk : Keep env (E x0)) (he : Ent H (Hh x0))
    (round : ∀ x, Inv x → Run P F N M (.code c :: .goal (fun a w => ∃ y, (Inv y ∧ μ y < μ x) ∧ Fits N (E y ++ eb) a ∧ Own M (Hh y) w) :: K) (E x ++ eb) (Hh x)) :
    Run P F N M (.code (.loop c) :: K) env H := r_loop (fun x => E x ++ eb) Hh Inv μ x0 hi (hk.app hb) he round
theorem r_loopc {α : Type} {c : Code} (E : α → Env) {eb : Env} (hb : Keep env eb) (Inv : α → Prop) (μ : α → Nat) (x0 : α) (hi : Inv x0) (hk : Keep env (E x0)) (he : Ent H H)
    (round : ∀ x, Inv x → Run P F N M (.code c :: .goal (fun a w => ∃ y, (Inv y ∧ μ y < μ x) ∧ Fits N (E y ++ eb) a ∧ Own M H w) :: K) (E x ++ eb) H) :
    Run P F N M (.code (.loop c) :: K) env H := r_loop (fun x => E x ++ eb) (fun _ => H) Inv μ x0 hi (hk.app hb) he round
theorem r_back' {α : Type} {E : α → Env} {eb : Env} {Hh : α → List HP} {Inv : α → Prop} {μ : α → Nat} {m : Nat} (y : α) (hi : Inv y) (hm : μ y < m) (hk : Keep env (E y ++ eb)) (he : Ent H (Hh y)) :
    Run P F N M (.goal (fun a w => ∃ y, (Inv y ∧ μ y < m) ∧ Fits N (E y ++ eb) a ∧ Own M (Hh y) w) :: K) env H :=
  fun _ _ hf ho => ⟨y, ⟨hi, hm⟩, hf.keep hk, ho.ent he⟩
theorem r_backc {α : Type} {E : α → Env} {eb : Env} {Inv : α → Prop} {μ : α → Nat} {m : Nat} (y : α) (hi : Inv y) (hm : μ y < m) (hk : Keep env (E y ++ eb)) (he : Ent H H') :
    Run P F N M (.goal (fun a w => ∃ y, (Inv y ∧ μ y < m) ∧ Fits N (E y ++ eb) a ∧ Own M H' w) :: K) env H :=
  fun _ _ hf ho => ⟨y, ⟨hi, hm⟩, hf.keep hk, ho.ent he⟩

end Go.Proofs.Ytmakdilmibjpbab
