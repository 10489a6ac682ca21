/- The engine: frames by what is known of their slots, owned heaps, a stack of what is still to run; one law a form of code and a kind of operation. For whatever program P. -/
import Derived.Test.YtmakdilmibjpbabHeap
import Derived.Deep.LoopGhost
namespace Go.Proofs.Ytmakdilmibjpbab
open Go Go.RowKit

abbrev Env := List (Nat × Bool × Value)

theorem beq_ne {d t : Nat} (e : ¬d = t) : Nat.beq d t = false := by
  cases h : Nat.beq d t with
  | false => rfl
  | true => exact absurd (Nat.eq_of_beq_eq_true h) e

def look : Env → Nat → Option (Bool × Value)
  | [], _ => Option.none
  | (t', x) :: e, t => cond (Nat.beq t' t) (some x) (look e t)

/-- The frame holds what 'env' tells: at a slot told under 'false' there is nothing. -/
structure Fits (N : Nat) (env : Env) (a : Act) : Prop where
  dfr : a.defers = []
  sz : a.tmps.size = N
  ok : ∀ t g v, look env t = some (g, v) → a.tmps.getD t undef = cond g v undef

def evo (env : Env) : Operand → Option (Bool × Value)
  | .tmp t => look env t
  | .const v => some (true, v)
  | .func f => some (true, .func (.func f) #[] #[])
  | .global g => some (true, .pointer (some ⟨g, 0, Option.none⟩))

variable {P : Program} {F : Exit → Act → World → Prop} {N : Nat} {M : Amb} {env : Env} {H H' R : List HP} {a : Act} {w : World} {ops : Array Oper} {o : Oper} {rest : List Oper}

theorem Fits.ev (h : Fits N env a) {x : Operand} {g : Bool} {v : Value} (hx : evo env x = some (g, v)) (hg : g = true) : a.eval x = v := by
  subst hg
  cases x with
  | tmp t => exact h.ok t _ _ hx
  | const c => simp [evo] at hx; exact hx
  | func f => simp [evo] at hx; exact hx
  | global g => simp [evo] at hx; exact hx

theorem Fits.put (h : Fits N env a) {d : Nat} (hd : Nat.blt d N = true) (g : Bool) (v : Value) : Fits N ((d, g, v) :: env) (a.put (some d) (cond g v undef)) := by
  have hd' : d < a.tmps.size := by rw [h.sz]; simpa using hd
  refine ⟨h.dfr, by simp [Act.put, h.sz], fun t g' v' hl => ?_⟩
  simp only [look] at hl
  by_cases e : d = t
  · subst e
    have : Nat.beq d d = true := by simp
    rw [this] at hl
    simp at hl
    obtain ⟨rfl, rfl⟩ := hl
    simp [Act.put, hd']
  · have := beq_ne e
    rw [this] at hl
    have := h.ok t g' v' hl
    simp only [Array.getD_eq_getD_getElem?, Act.put] at *
    rw [Array.getElem?_setIfInBounds_ne e]
    exact this

/-- What is kept of what is known. -/
inductive Keep (env : Env) : Env → Prop
  | n : Keep env []
  | c (t : Nat) {g : Bool} {v : Value} {e : Env} (h : look env t = some (g, v)) (k : Keep env e) : Keep env ((t, g, v) :: e)

theorem Keep.look {env e : Env} (k : Keep env e) : ∀ t x, Go.Proofs.Ytmakdilmibjpbab.look e t = some x → Go.Proofs.Ytmakdilmibjpbab.look env t = some x := by
  induction k with
  | n => intro t x h; cases h
  | c t0 h k ih =>
    intro t x hx
    simp only [Go.Proofs.Ytmakdilmibjpbab.look] at hx
    by_cases e : t0 = t
    · subst e
      have : Nat.beq t0 t0 = true := by simp
      rw [this] at hx
      simp at hx; subst hx; exact h
    · have := beq_ne e
      rw [this] at hx
      exact ih t x hx

theorem Fits.keep (h : Fits N env a) {e : Env} (k : Keep env e) : Fits N e a := ⟨h.dfr, h.sz, fun t g v hl => h.ok t g v (k.look t _ hl)⟩

inductive KI where
  | code (c : Code)
  | blk (id : Nat)
  | goal (φ : Act → World → Prop)

def post (P : Program) (F : Exit → Act → World → Prop) : List KI → Exit → Act → World → Prop
  | [] => F
  | .code c :: K => Exit.then (c.wp P (post P F K)) (post P F K)
  | .blk id :: K => Exit.inBlock id (post P F K)
  | .goal φ :: K => Exit.then φ (post P F K)

def Run (P : Program) (F : Exit → Act → World → Prop) (N : Nat) (M : Amb) (K : List KI) (env : Env) (H : List HP) : Prop :=
  ∀ a w, Fits N env a → Own M H w → post P F K .normal a w
def Ops (P : Program) (F : Exit → Act → World → Prop) (N : Nat) (M : Amb) (K : List KI) (ops : Array Oper) (rest : List Oper) (env : Env) (H : List HP) : Prop :=
  ∀ a w, Fits N env a → Own M H w → wpList P ops (post P F K) rest a w

variable {K : List KI}

theorem r_seq {x y : Code} (h : Run P F N M (.code x :: .code y :: K) env H) : Run P F N M (.code (.seq x y) :: K) env H :=
  fun a w hf ho => wp_seq (h a w hf ho)
theorem r_skip (h : Run P F N M K env H) : Run P F N M (.code .skip :: K) env H := fun a w hf ho => wp_skip (h a w hf ho)
theorem r_label {l : Nat} (h : Run P F N M K env H) : Run P F N M (.code (.label l) :: K) env H := fun a w hf ho => wp_label (h a w hf ho)
theorem r_block {id : Nat} {c : Code} (h : Run P F N M (.code c :: .blk id :: K) env H) : Run P F N M (.code (.block id c) :: K) env H :=
  fun a w hf ho => wp_block (h a w hf ho)
theorem r_end {id : Nat} (h : Run P F N M K env H) : Run P F N M (.blk id :: K) env H := fun a w hf ho => h a w hf ho
theorem r_cond {c : Operand} {x y : Code} (b : Bool) (hc : evo env c = some (true, .bool b)) (ht : b = true → Run P F N M (.code x :: K) env H) (hf : b = false → Run P F N M (.code y :: K) env H) :
    Run P F N M (.code (.cond c x y) :: K) env H :=
  fun a w hfit ho => wp_cond_split (hfit.ev hc _root_.rfl) (fun e => ht e a w hfit ho) (fun e => hf e a w hfit ho)
theorem r_keep {e : Env} (k : Keep env e) (h : Run P F N M K e H) : Run P F N M K env H := fun a w hf ho => h a w (hf.keep k) ho
theorem r_ent (k : Ent H H') (h : Run P F N M K env H') : Run P F N M K env H := fun a w hf ho => h a w hf (ho.ent k)

def cut (id : Nat) : List KI → Option (List KI)
  | [] => Option.none
  | .blk id' :: K => cond (Nat.beq id id') (some K) (cut id K)
  | _ :: K => cut id K

theorem post_cut {id : Nat} : ∀ {K K' : List KI}, cut id K = some K' → post P F K (.exit id) = post P F K' .normal
  | [], _, h => by cases h
  | .blk id' :: K, K', h => by
    simp only [cut] at h
    by_cases e : id = id'
    · subst e
      have : Nat.beq id id = true := by simp
      rw [this] at h; simp at h; subst h
      funext a w; simp [post, Exit.inBlock]
    · have := beq_ne e
      rw [this] at h
      funext a w; simp only [post, Exit.inBlock, e, if_false]
      exact congrFun (congrFun (post_cut (K := K) h) a) w
  | .code c :: K, K', h => by funext a w; exact congrFun (congrFun (post_cut (K := K) h) a) w
  | .goal c :: K, K', h => by funext a w; exact congrFun (congrFun (post_cut (K := K) h) a) w

theorem r_exit {id : Nat} {K' : List KI} (hc : cut id K = some K') (h : Run P F N M K' env H) : Run P F N M (.code (.exit id) :: K) env H :=
  fun a w hf ho => wp_exit (by rw [post_cut hc]; exact h a w hf ho)

theorem post_ret : ∀ {K : List KI}, post P F K .ret = F .ret
  | [] => _root_.rfl
  | .blk _ :: K => by funext a w; exact congrFun (congrFun (post_ret (K := K)) a) w
  | .code _ :: K => by funext a w; exact congrFun (congrFun (post_ret (K := K)) a) w
  | .goal _ :: K => by funext a w; exact congrFun (congrFun (post_ret (K := K)) a) w

theorem r_ret_raw (h : ∀ a w, Fits N env a → Own M H w → F .ret a w) : Run P F N M (.code .ret :: K) env H :=
  fun a w hf ho => wp_ret (by rw [post_ret]; exact h a w hf ho)

theorem r_loop {α : Type} {c : Code} (E : α → Env) (Hh : α → List HP) (Inv : α → Prop) (μ : α → Nat) (x0 : α) (hi : Inv x0) (hk : Keep env (E x0)) (he : Ent H (Hh x0))
    (round : ∀ x, Inv x → Run P F N M (.code c :: .goal (fun a w => ∃ y, (Inv y ∧ μ y < μ x) ∧ Fits N (E y) a ∧ Own M (Hh y) w) :: K) (E x) (Hh x)) :
    Run P F N M (.code (.loop c) :: K) env H := by
  intro a w hf ho
  refine wp_loop_ghost (fun n a w => ∃ y, (Inv y ∧ μ y = n) ∧ Fits N (E y) a ∧ Own M (Hh y) w) (μ x0) ⟨x0, ⟨hi, _root_.rfl⟩, hf.keep hk, ho.ent he⟩ ?_
  rintro n a w ⟨x, ⟨hx, rfl⟩, hfx, hox⟩
  refine wp_mono (round x hx a w hfx hox) ?_
  intro e a' w' hq
  cases e with
  | normal =>
    obtain ⟨y, ⟨hy, hlt⟩, hfy, hoy⟩ := hq
    exact ⟨μ y, hlt, y, ⟨hy, _root_.rfl⟩, hfy, hoy⟩
  | _ => exact hq

theorem r_back {α : Type} {E : α → Env} {Hh : α → List HP} {Inv : α → Prop} {μ : α → Nat} {m : Nat} (y : α) (hi : Inv y) (hm : μ y < m) (hk : Keep env (E y)) (he : Ent H (Hh y)) :
    Run P F N M (.goal (fun a w => ∃ y, (Inv y ∧ μ y < m) ∧ Fits N (E y) a ∧ Own M (Hh y) w) :: K) env H :=
  fun _ _ hf ho => ⟨y, ⟨hi, hm⟩, hf.keep hk, ho.ent he⟩


/-! ### Regions -/

theorem r_region {id : Nat} {l : List Oper} (h : Ops P F N M K l.toArray l env H) : Run P F N M (.code (.region id l.toArray false) :: K) env H :=
  fun a w hf ho => wp_region_lit (h a w hf ho)
theorem o_done (h : Run P F N M K env H) : Ops P F N M K ops [] env H := fun a w hf ho => wpList_nil (h a w hf ho)
theorem o_keep {e : Env} (k : Keep env e) (h : Run P F N M K e H) : Ops P F N M K ops [] env H := fun a w hf ho => wpList_nil (h a w (hf.keep k) ho)
theorem o_ent (k : Ent H H') (h : Ops P F N M K ops rest env H') : Ops P F N M K ops rest env H := fun a w hf ho => h a w hf (ho.ent k)

/-- One operation: what it comes to, whatever is to be done behind it. -/
def OpX (P : Program) (N : Nat) (M : Amb) (ops : Array Oper) (o : Oper) (env : Env) (H : List HP) (Rr : Env → List HP → Prop) : Prop :=
  ∀ (a : Act) (w : World) (Kc : Act → World → Prop) (Q : Exit → Act → World → Prop), Fits N env a → Own M H w →
    (∀ env' H' u w', Rr env' H' → Fits N env' (a.put o.dst u) → Own M H' w' → Kc (a.put o.dst u) w') →
    if Region.wanted o (yielded ops a.tmps) = true then o.wp P a w Kc Q else Kc (a.put o.dst undef) w

theorem l_op (h : OpX P N M ops o env H (fun e h => Ops P F N M K ops rest e h)) : Ops P F N M K ops (o :: rest) env H := fun a w hf ho => by
  have := h a w (wpList P ops (post P F K) rest) (post P F K) hf ho (fun _ _ _ w' hr hf' ho' => hr _ w' hf' ho')
  unfold wpList
  split
  · rename_i hw; rw [if_pos hw] at this; exact .inl this
  · rename_i hw; rw [if_neg hw] at this; exact this

/-- The operation's guard says g. -/
inductive Gd (ops : Array Oper) (env : Env) (o : Oper) : Bool → Prop
  | n (h : o.guard = Option.none) : Gd ops env o true
  | s {j : Nat} {want : Bool} {t : Nat} {gj b : Bool} (h1 : o.guard = some (j, want)) (h2 : (ops[j]?).bind (·.dst) = some t) (h3 : look env t = some (gj, .bool b)) :
      Gd ops env o (gj && cond want b (!b))

theorem Gd.wanted {g : Bool} (h : Gd ops env o g) (hf : Fits N env a) : Region.wanted o (yielded ops a.tmps) = g := by
  cases h with
  | n h => simp [Region.wanted, h]
  | s h1 h2 h3 =>
    rename_i j want t gj b
    have hv := hf.ok t _ _ h3
    simp only [Region.wanted, h1, yielded, h2, Option.bind_some]
    simp only [Array.getD_eq_getD_getElem?] at hv
    cases ht : a.tmps[t]? with
    | none =>
      rw [ht] at hv
      cases gj
      · simp
      · simp [undef] at hv
    | some x =>
      rw [ht] at hv
      simp at hv
      subst hv
      cases gj <;> cases b <;> cases want <;> simp [undef]

/-- An operation that gives its value off the frame alone, in whatever world. -/
def PV (P : Program) (ops : Array Oper) (o : Oper) (env : Env) (g : Bool) (v : Value) : Prop :=
  ∀ (N : Nat) (a : Act), Fits N env a → Region.wanted o (yielded ops a.tmps) = g ∧ (g = true → ∀ w, (execOp a.eval o).run P w = .ok (.value v) w)

theorem x_p {d : Nat} {g : Bool} {v : Value} {Rr : Env → List HP → Prop} (hp : PV P ops o env g v) (hd : o.dst = some d) (hN : Nat.blt d N = true) (h : Rr ((d, g, v) :: env) H) :
    OpX P N M ops o env H Rr := fun a w Kc Q hf ho hK => by
  obtain ⟨hw, hr⟩ := hp N a hf
  rw [hw]
  cases g with
  | true =>
    simp only [if_true, Oper.wp, hr _root_.rfl w, Oper.upon_value]
    exact hK _ _ _ _ h (by rw [hd]; exact hf.put hN true v) ho
  | false =>
    simp only [Bool.false_eq_true, if_false]
    exact hK _ _ _ _ h (by rw [hd]; exact hf.put hN false v) ho

variable {g gx gy : Bool} {x y : Operand} {v v' : Value}

theorem pv_mv (hg : Gd ops env o g) (hop : o.op = .move x) (hx : evo env x = some (gx, v)) (hi : g = true → gx = true) : PV P ops o env g v :=
  fun _ _ hf => ⟨hg.wanted hf, fun e w => by simp [execOp, hop, hf.ev hx (hi e)]⟩
theorem pv_as (hg : Gd ops env o g) (hop : o.op = .assign x) (hx : evo env x = some (gx, v)) (hi : g = true → gx = true) : PV P ops o env g v :=
  fun _ _ hf => ⟨hg.wanted hf, fun e w => by simp [execOp, hop, hf.ev hx (hi e)]⟩

section ints
variable {T T2 : TypeId} {k : IntKind} {m n : Int}
theorem pv_lss (hg : Gd ops env o g) (hop : o.op = .binOp .lss T x y T2) (hx : evo env x = some (gx, .int k m)) (hy : evo env y = some (gy, .int k n)) (hi : g = true → gx = true ∧ gy = true) :
    PV P ops o env g (.bool (decide (m < n))) :=
  fun _ _ hf => ⟨hg.wanted hf, fun e w => by simp [execOp, hop, hf.ev hx (hi e).1, hf.ev hy (hi e).2, binOp, eqGuard, Op.intCmp]⟩
theorem pv_leq (hg : Gd ops env o g) (hop : o.op = .binOp .leq T x y T2) (hx : evo env x = some (gx, .int k m)) (hy : evo env y = some (gy, .int k n)) (hi : g = true → gx = true ∧ gy = true) :
    PV P ops o env g (.bool (decide (m ≤ n))) :=
  fun _ _ hf => ⟨hg.wanted hf, fun e w => by simp [execOp, hop, hf.ev hx (hi e).1, hf.ev hy (hi e).2, binOp, eqGuard, Op.intCmp]⟩
theorem pv_gtr (hg : Gd ops env o g) (hop : o.op = .binOp .gtr T x y T2) (hx : evo env x = some (gx, .int k m)) (hy : evo env y = some (gy, .int k n)) (hi : g = true → gx = true ∧ gy = true) :
    PV P ops o env g (.bool (decide (n < m))) :=
  fun _ _ hf => ⟨hg.wanted hf, fun e w => by simp [execOp, hop, hf.ev hx (hi e).1, hf.ev hy (hi e).2, binOp, eqGuard, Op.intCmp]⟩
theorem pv_geq (hg : Gd ops env o g) (hop : o.op = .binOp .geq T x y T2) (hx : evo env x = some (gx, .int k m)) (hy : evo env y = some (gy, .int k n)) (hi : g = true → gx = true ∧ gy = true) :
    PV P ops o env g (.bool (decide (n ≤ m))) :=
  fun _ _ hf => ⟨hg.wanted hf, fun e w => by simp [execOp, hop, hf.ev hx (hi e).1, hf.ev hy (hi e).2, binOp, eqGuard, Op.intCmp]⟩
theorem pv_eql (hg : Gd ops env o g) (hop : o.op = .binOp .eql T x y T2) (hx : evo env x = some (gx, .int k m)) (hy : evo env y = some (gy, .int k n)) (hi : g = true → gx = true ∧ gy = true) :
    PV P ops o env g (.bool (decide (m = n))) :=
  fun _ _ hf => ⟨hg.wanted hf, fun e w => by simp [execOp, hop, hf.ev hx (hi e).1, hf.ev hy (hi e).2, binOp, eqGuard, Op.intCmp]; rfl⟩
theorem pv_neq (hg : Gd ops env o g) (hop : o.op = .binOp .neq T x y T2) (hx : evo env x = some (gx, .int k m)) (hy : evo env y = some (gy, .int k n)) (hi : g = true → gx = true ∧ gy = true) :
    PV P ops o env g (.bool (!decide (m = n))) :=
  fun _ _ hf => ⟨hg.wanted hf, fun e w => by simp [execOp, hop, hf.ev hx (hi e).1, hf.ev hy (hi e).2, binOp, eqGuard, Op.intCmp]; rfl⟩
theorem pv_addw (hg : Gd ops env o g) (hop : o.op = .binOp .add T x y T2) (hx : evo env x = some (gx, .int k m)) (hy : evo env y = some (gy, .int k n)) (hi : g = true → gx = true ∧ gy = true) :
    PV P ops o env g (.int k (k.wrap (m + n))) :=
  fun _ _ hf => ⟨hg.wanted hf, fun e w => by simp [execOp, hop, hf.ev hx (hi e).1, hf.ev hy (hi e).2, binOp, eqGuard, Op.intArith]⟩
theorem pv_subw (hg : Gd ops env o g) (hop : o.op = .binOp .sub T x y T2) (hx : evo env x = some (gx, .int k m)) (hy : evo env y = some (gy, .int k n)) (hi : g = true → gx = true ∧ gy = true) :
    PV P ops o env g (.int k (k.wrap (m - n))) :=
  fun _ _ hf => ⟨hg.wanted hf, fun e w => by simp [execOp, hop, hf.ev hx (hi e).1, hf.ev hy (hi e).2, binOp, eqGuard, Op.intArith]⟩
theorem pv_mulw (hg : Gd ops env o g) (hop : o.op = .binOp .mul T x y T2) (hx : evo env x = some (gx, .int k m)) (hy : evo env y = some (gy, .int k n)) (hi : g = true → gx = true ∧ gy = true) :
    PV P ops o env g (.int k (k.wrap (m * n))) :=
  fun _ _ hf => ⟨hg.wanted hf, fun e w => by simp [execOp, hop, hf.ev hx (hi e).1, hf.ev hy (hi e).2, binOp, eqGuard, Op.intArith]⟩
theorem pv_negw (hg : Gd ops env o g) (hop : o.op = .unOp .neg T x) (hx : evo env x = some (gx, .int k m)) (hi : g = true → gx = true) : PV P ops o env g (.int k (k.wrap (-m))) :=
  fun _ _ hf => ⟨hg.wanted hf, fun e w => by simp [execOp, hop, hf.ev hx (hi e), Op.unary, Op.intArith]⟩
end ints

/-- The value said otherwise, where the operation is carried out. -/
theorem pv_eq (h : PV P ops o env g v) (e : g = true → v = v') : PV P ops o env g v' := fun N a hf =>
  ⟨(h N a hf).1, fun hg w => e hg ▸ (h N a hf).2 hg w⟩

theorem pv_not {T : TypeId} {b : Bool} (hg : Gd ops env o g) (hop : o.op = .unOp .not T x) (hx : evo env x = some (gx, .bool b)) (hi : g = true → gx = true) : PV P ops o env g (.bool (!b)) :=
  fun _ _ hf => ⟨hg.wanted hf, fun e w => by simp [execOp, hop, hf.ev hx (hi e), Op.unary]⟩
/-- 'c || m', 'c && m': m may not have been reckoned. -/
theorem pv_or {c m gm : Bool} (hg : Gd ops env o g) (hop : o.op = .pick x (.const (.bool true)) y) (hx : evo env x = some (gx, .bool c)) (hy : evo env y = some (gm, .bool m)) (hi : g = true → gx = true ∧ (c = false → gm = true)) :
    PV P ops o env g (.bool (c || m)) :=
  fun _ _ hf => ⟨hg.wanted hf, fun e w => by
    cases c with
    | true => have hv := hf.ev hx (hi e).1; simp only [execOp, hop]; rw [hv]; simp [asBool, Act.eval]
    | false => simp [execOp, hop, hf.ev hx (hi e).1, hf.ev hy ((hi e).2 _root_.rfl), asBool]⟩
theorem pv_and {c m gm : Bool} (hg : Gd ops env o g) (hop : o.op = .pick x y (.const (.bool false))) (hx : evo env x = some (gx, .bool c)) (hy : evo env y = some (gm, .bool m)) (hi : g = true → gx = true ∧ (c = true → gm = true)) :
    PV P ops o env g (.bool (c && m)) :=
  fun _ _ hf => ⟨hg.wanted hf, fun e w => by
    cases c with
    | false => have hv := hf.ev hx (hi e).1; simp only [execOp, hop]; rw [hv]; simp [asBool, Act.eval]
    | true => simp [execOp, hop, hf.ev hx (hi e).1, hf.ev hy ((hi e).2 _root_.rfl), asBool]⟩
theorem pv_nilp {A : Addr} (hg : Gd ops env o g) (hop : o.op = .nilCheck x) (hx : evo env x = some (gx, .pointer (some A))) (hi : g = true → gx = true) : PV P ops o env g (.pointer (some A)) :=
  fun _ _ hf => ⟨hg.wanted hf, fun e w => by simp [execOp, hop, hf.ev hx (hi e)]⟩

/-! closed facts of the table of types, as Bools -/
def faB (P : Program) (s : TypeId) (f fo : Nat) : Bool :=
  match P.underlying s with
  | some (.struct fs) => match fs[f]? with
    | some x => x.offset == fo && (match P.info? x.type with | some i => i.size != 0 | Option.none => false)
    | Option.none => false
  | _ => false
def tcB (P : Program) (t : TypeId) : Bool :=
  match P.underlying t with
  | some (.struct _) | some (.array _ _) | Option.none => false
  | _ => match P.info? t with | some i => i.size == 1 | Option.none => false
def taB (P : Program) (t : TypeId) (n : Nat) : Bool :=
  match P.underlying t with
  | some (.struct _) | some (.array _ _) => match P.info? t with | some i => i.size == n | Option.none => false
  | _ => false

theorem addr_add (b off n : Nat) : (⟨b, off, Option.none⟩ : Addr).add n = ⟨b, off + n, Option.none⟩ := by
  unfold Addr.add; split <;> simp_all

theorem run_und {t : TypeId} {d : TypeDesc} (h : P.underlying t = some d) (w : World) : (underlying t).run P w = .ok d w := run_underlying h w
theorem run_info {t : TypeId} {i : TypeInfo} (h : P.info? t = some i) (w : World) : (typeInfo t).run P w = .ok i w := by simp [typeInfo, h]

theorem pv_fa {s : TypeId} {f fo b off : Nat} (fa : faB P s f fo = true) (hg : Gd ops env o g) (hop : o.op = .fieldAddr s x f) (hx : evo env x = some (gx, .pointer (some ⟨b, off, Option.none⟩))) (hi : g = true → gx = true) :
    PV P ops o env g (.pointer (some ⟨b, off + fo, Option.none⟩)) :=
  fun _ _ hf => ⟨hg.wanted hf, fun e w => by
    unfold faB at fa
    split at fa
    · rename_i fs hu
      split at fa
      · rename_i fld hfld
        simp at fa
        obtain ⟨rfl, h2⟩ := fa
        split at h2
        · rename_i i hinf
          simp at h2
          simp [execOp, hop, hf.ev hx (hi e), Instr.fieldAt, run_und hu, hfld, Instr.sureAddr, fieldPlace, sizeOf, run_info hinf, h2, addr_add]
        · cases h2
      · cases fa
    · cases fa⟩

theorem pv_len {T Tr : TypeId} {ao : Option Addr} {n c : Nat} {at' : Array TypeId} (hs : ∃ e, P.underlying T = some (.slice e)) (hg : Gd ops env o g)
    (hop : o.op = .call { callee := .builtin .len, args := #[x], argTypes := at' }) (hT : at'[0]? = some T) (_ : o.type = Tr) (hx : evo env x = some (gx, .slice ao n c)) (hi : g = true → gx = true) : PV P ops o env g (.int .i64 n) :=
  fun _ _ hf => ⟨hg.wanted hf, fun e w => by
    obtain ⟨el, hs⟩ := hs
    simp [execOp, hop, resolve, invoke, builtin, Builtin.len_, hf.ev hx (hi e), hT, run_und hs, goInt]⟩

end Go.Proofs.Ytmakdilmibjpbab
