/- Heaps in parts: heaps that are known in part, lists of parts that lie apart, what a world owns; entailment and selection. No program in sight. -/
import Derived.WalkKit
namespace Go.Proofs.Ytmakdilmibjpbab
open Go Go.RowKit

abbrev Hp := Nat → Option Obj
def HP := Hp → Prop
structure Amb where
  B : Nat
  w0 : World

def Hp.emp : Hp := fun _ => Option.none
def Hp.un (a b : Hp) : Hp := fun k => match a k with | some o => some o | Option.none => b k
def Hp.dj (a b : Hp) : Prop := ∀ k, a k = Option.none ∨ b k = Option.none
def Hp.sub (a b : Hp) : Prop := ∀ k o, a k = some o → b k = some o

def sep : List HP → HP
  | [] => fun h => h = Hp.emp
  | X :: L => fun h => ∃ a b, X a ∧ sep L b ∧ a.dj b ∧ h = a.un b

theorem Hp.un_some {a b : Hp} {k : Nat} {o : Obj} (h : a.un b k = some o) : a k = some o ∨ (a k = Option.none ∧ b k = some o) := by
  unfold Hp.un at h; split at h
  · rename_i x hx; exact .inl (by rw [hx, h])
  · rename_i hx; exact .inr ⟨hx, h⟩
theorem Hp.un_l {a b : Hp} {k : Nat} {o : Obj} (h : a k = some o) : a.un b k = some o := by simp [Hp.un, h]
theorem Hp.un_r {a b : Hp} (hd : a.dj b) {k : Nat} {o : Obj} (h : b k = some o) : a.un b k = some o := by
  rcases hd k with h' | h'
  · simp [Hp.un, h', h]
  · rw [h] at h'; cases h'
theorem Hp.un_none {a b : Hp} {k : Nat} : a.un b k = Option.none ↔ a k = Option.none ∧ b k = Option.none := by
  unfold Hp.un; cases a k <;> simp
theorem Hp.dj_sub {a a' b b' : Hp} (h : a.dj b) (ha : a'.sub a) (hb : b'.sub b) : a'.dj b' := by
  intro k
  cases h1 : a' k with
  | none => exact .inl rfl
  | some o =>
    refine .inr ?_
    cases h2 : b' k with
    | none => rfl
    | some p =>
      rcases h k with h3 | h3
      · rw [ha k o h1] at h3; cases h3
      · rw [hb k p h2] at h3; cases h3
theorem Hp.dj_symm {a b : Hp} (h : a.dj b) : b.dj a := fun k => (h k).symm
theorem Hp.sub_refl (a : Hp) : a.sub a := fun _ _ h => h
theorem Hp.sub_trans {a b c : Hp} (h : a.sub b) (h' : b.sub c) : a.sub c := fun k o hk => h' k o (h k o hk)
theorem Hp.sub_un_l (a b : Hp) : a.sub (a.un b) := fun _ _ h => Hp.un_l h
theorem Hp.sub_un_r {a b : Hp} (hd : a.dj b) : b.sub (a.un b) := fun _ _ h => Hp.un_r hd h
theorem Hp.un_sub {a b c : Hp} (ha : a.sub c) (hb : b.sub c) : (a.un b).sub c := fun k o h => by
  rcases Hp.un_some h with h | ⟨_, h⟩
  · exact ha k o h
  · exact hb k o h
theorem Hp.dj_un {a b c : Hp} (h1 : a.dj b) (h2 : a.dj c) : a.dj (b.un c) := fun k => by
  rcases h1 k with h | h
  · exact .inl h
  · rcases h2 k with h' | h'
    · exact .inl h'
    · exact .inr (Hp.un_none.2 ⟨h, h'⟩)

/-- What is owned (H) is at least H'. -/
def Ent (H H' : List HP) : Prop := ∀ h, sep H h → ∃ h', sep H' h' ∧ h'.sub h

theorem Ent.rfl {H : List HP} : Ent H H := fun h hh => ⟨h, hh, Hp.sub_refl h⟩
theorem Ent.tr {A B C : List HP} (h : Ent A B) (k : Ent B C) : Ent A C := fun x hx =>
  let ⟨y, hy, s⟩ := h x hx; let ⟨z, hz, t⟩ := k y hy; ⟨z, hz, Hp.sub_trans t s⟩
theorem Ent.drop {X : HP} {R : List HP} : Ent (X :: R) R := fun _ ⟨_, b, _, hb, hd, e⟩ => ⟨b, hb, e ▸ Hp.sub_un_r hd⟩
theorem Ent.dropR {X : HP} {R R' : List HP} (h : Ent R R') : Ent (X :: R) R' := Ent.tr Ent.drop h
theorem Ent.mono {X : HP} {R R' : List HP} (h : Ent R R') : Ent (X :: R) (X :: R') := fun _ ⟨a, b, ha, hb, hd, e⟩ =>
  let ⟨b', hb', s⟩ := h b hb
  ⟨a.un b', ⟨a, b', ha, hb', Hp.dj_sub hd (Hp.sub_refl a) s, _root_.rfl⟩, e ▸ Hp.un_sub (Hp.sub_un_l a b) (Hp.sub_trans s (Hp.sub_un_r hd))⟩
theorem Ent.swap {X Y : HP} {R : List HP} : Ent (Y :: X :: R) (X :: Y :: R) := fun _ ⟨a, b, ha, ⟨c, d, hc, hd, hcd, eb⟩, hab, e⟩ => by
  subst eb; subst e
  have hac : a.dj c := Hp.dj_sub hab (Hp.sub_refl a) (Hp.sub_un_l c d)
  have had : a.dj d := Hp.dj_sub hab (Hp.sub_refl a) (Hp.sub_un_r hcd)
  refine ⟨c.un (a.un d), ⟨c, a.un d, hc, ⟨a, d, ha, hd, had, _root_.rfl⟩, Hp.dj_un (Hp.dj_symm hac) hcd, _root_.rfl⟩, ?_⟩
  have s2 : (c.un d).sub (a.un (c.un d)) := Hp.sub_un_r hab
  exact Hp.un_sub (Hp.sub_trans (Hp.sub_un_l c d) s2) (Hp.un_sub (Hp.sub_un_l a _) (Hp.sub_trans (Hp.sub_un_r hcd) s2))
/-- Selection: the part at the head; a part further back. -/
theorem Ent.h {X : HP} {R : List HP} : Ent (X :: R) (X :: R) := Ent.rfl
theorem Ent.t {X Y : HP} {R R' : List HP} (h : Ent R (X :: R')) : Ent (Y :: R) (X :: Y :: R') := Ent.tr (Ent.mono h) Ent.swap
/-- A list of parts out of H, one by one. -/
theorem Ent.c {X : HP} {H R L : List HP} (h : Ent H (X :: R)) (k : Ent R L) : Ent H (X :: L) := Ent.tr h (Ent.mono k)
theorem Ent.imp {X Y : HP} {R : List HP} (h : ∀ x, X x → Y x) : Ent (X :: R) (Y :: R) := fun _ ⟨a, b, ha, r⟩ => ⟨_, ⟨a, b, h a ha, r⟩, Hp.sub_refl _⟩
theorem sep_app {A B : List HP} {h : Hp} : sep (A ++ B) h → ∃ a b, sep A a ∧ sep B b ∧ a.dj b ∧ h = a.un b := by
  induction A generalizing h with
  | nil => intro hh; exact ⟨Hp.emp, h, _root_.rfl, hh, fun _ => .inl _root_.rfl, funext fun _ => _root_.rfl⟩
  | cons X A ih =>
    rintro ⟨a, b, ha, hb, hd, e⟩
    obtain ⟨c, d, hc, hdd, hcd, eb⟩ := ih hb
    subst eb; subst e
    refine ⟨a.un c, d, ⟨a, c, ha, hc, Hp.dj_sub hd (Hp.sub_refl a) (Hp.sub_un_l c d), _root_.rfl⟩, hdd, ?_, ?_⟩
    · exact Hp.dj_symm (Hp.dj_un (Hp.dj_symm (Hp.dj_sub hd (Hp.sub_refl a) (Hp.sub_un_r hcd))) (Hp.dj_symm hcd))
    · funext k; unfold Hp.un; cases a k <;> simp
theorem sep_app' {A B : List HP} {a b : Hp} (ha : sep A a) (hb : sep B b) (hd : a.dj b) : sep (A ++ B) (a.un b) := by
  induction A generalizing a with
  | nil => cases (show a = Hp.emp from ha); exact (show sep B (Hp.un Hp.emp b) from hb)
  | cons X A ih =>
    obtain ⟨x, y, hx, hy, hxy, e⟩ := ha
    subst e
    refine ⟨x, y.un b, hx, ih hy (Hp.dj_sub hd (Hp.sub_un_r hxy) (Hp.sub_refl b)), Hp.dj_un hxy (Hp.dj_sub hd (Hp.sub_un_l x y) (Hp.sub_refl b)), ?_⟩
    funext k; unfold Hp.un; cases x k <;> simp
/-- Lists of parts: what the first list gives the second part of may stay behind. -/
theorem Ent.app {A A' B : List HP} (h : Ent A A') : Ent (A ++ B) (A' ++ B) := fun x hx => by
  obtain ⟨a, b, ha, hb, hd, e⟩ := sep_app hx
  obtain ⟨a', ha', s⟩ := h a ha
  subst e
  exact ⟨a'.un b, sep_app' ha' hb (Hp.dj_sub hd s (Hp.sub_refl b)), Hp.un_sub (Hp.sub_trans s (Hp.sub_un_l a b)) (Hp.sub_un_r hd)⟩

/-- A part that says a plain fact as well; a part that is some part. -/
def ex {α : Type} (F : α → HP) : HP := fun h => ∃ x, F x h
def box (L : List HP) : HP := sep L

/-- A row of cells that nobody has frozen: a variable, an array. -/
def blk (b : Nat) (cs : List Value) (T : TypeId) : HP := fun h => h = fun k => if k = b then some (.cells cs.toArray T (0, 0)) else Option.none

def RowsOk (sz : Nat) (rows : List (List Value)) : Prop := ∀ r ∈ rows, r.length = sz ∧ ∀ v ∈ r, v.oneCell' = true
/-- An array of 'cap' elements of 'sz' cells, of which the first are told. -/
def arr (g : Nat) (E : TypeId) (sz : Nat) (rows : List (List Value)) (cap : Nat) : HP := fun h =>
  ∃ sp : List Value, blk g (rows.flatten ++ sp) E h ∧ RowsOk sz rows ∧ rows.length ≤ cap ∧ cap ≤ maxLen ∧ (rows.flatten ++ sp).length = cap * sz
/-- A slice that is the call's own: nil, or at the head of an array of its own. -/
def sl (v : Value) (E : TypeId) (sz : Nat) (rows : List (List Value)) : HP := fun h =>
  (v = .slice Option.none 0 0 ∧ rows = [] ∧ h = Hp.emp) ∨ ∃ g cap, v = .slice (some ⟨g, 0, Option.none⟩) rows.length cap ∧ arr g E sz rows cap h

/-- The world w: below B as w0 was; what H tells lies in it, from B on, part by part apart. -/
structure Own (M : Amb) (H : List HP) (w : World) : Prop where
  below : Below M.B M.w0 w
  size : M.B ≤ w.heap.size
  ex : ∃ h, sep H h ∧ ∀ k o, h k = some o → M.B ≤ k ∧ w.heap[k]? = some o

variable {M : Amb} {H H' R : List HP} {w w' : World}

theorem Own.ent (o : Own M H w) (h : Ent H H') : Own M H' w :=
  ⟨o.below, o.size, let ⟨x, hx, hs⟩ := o.ex; let ⟨y, hy, s⟩ := h x hx; ⟨y, hy, fun k ob hk => hs k ob (s k ob hk)⟩⟩

theorem Own.start (w : World) : Own ⟨w.heap.size, w⟩ [] w := ⟨Below.refl _ _, Nat.le_refl _, Hp.emp, _root_.rfl, fun _ _ h => by cases h⟩

theorem Own.blk {b : Nat} {cs : List Value} {T : TypeId} (o : Own M (blk b cs T :: R) w) : M.B ≤ b ∧ w.heap[b]? = some (.cells cs.toArray T (0, 0)) := by
  obtain ⟨h, ⟨a, c, ha, _, _, e⟩, hs⟩ := o.ex
  have ha' : a = fun k => if k = b then some (.cells cs.toArray T (0, 0)) else Option.none := ha
  subst e
  exact hs b _ (Hp.un_l (by rw [ha']; simp))

theorem Own.cell {b : Nat} {cs : List Value} {T : TypeId} (o : Own M (Go.Proofs.Ytmakdilmibjpbab.blk b cs T :: R) w) (i : Nat) : w.cell? ⟨b, i, Option.none⟩ = cs[i]? := by
  simp [World.cell?, o.blk.2]
theorem Own.froz {b : Nat} {cs : List Value} {T : TypeId} (o : Own M (Go.Proofs.Ytmakdilmibjpbab.blk b cs T :: R) w) (i : Nat) : w.frozen? ⟨b, i, Option.none⟩ = false := by
  simp [World.frozen?, o.blk.2]

theorem Own.drawn (o : Own M H w) (n : Nat) : Own M H { w with drawn := n } := ⟨⟨o.below.os, o.below.tape, o.below.output, o.below.size, o.below.block⟩, o.size, o.ex⟩

theorem Own.alloc (o : Own M H w) (cs : List Value) (T : TypeId) : Own M (Go.Proofs.Ytmakdilmibjpbab.blk w.heap.size cs T :: H) (w.alloc (.cells cs.toArray T)) := by
  obtain ⟨h, hh, hs⟩ := o.ex
  have hlt : ∀ k ob, h k = some ob → k < w.heap.size := fun k ob hk => (Array.getElem?_eq_some_iff.1 (hs k ob hk).2).1
  refine ⟨o.below.alloc o.size _, by simp; have := o.size; omega, _, ⟨_, h, _root_.rfl, hh, fun k => ?_, _root_.rfl⟩, fun k ob hk => ?_⟩
  · by_cases e : k = w.heap.size
    · refine .inr ?_
      cases hk : h k with
      | none => rfl
      | some ob => have := hlt k ob hk; omega
    · exact .inl (by simp [e])
  · rcases Hp.un_some hk with hk | ⟨_, hk⟩
    · by_cases e : k = w.heap.size
      · subst e; simp at hk; subst hk
        exact ⟨o.size, heap_alloc_new w _⟩
      · simp [e] at hk
    · exact ⟨(hs k ob hk).1, (heap_alloc_old w _ (hlt k ob hk)).trans (hs k ob hk).2⟩

/-- The first part is replaced: whatever part stands in its place lies in blocks of it, or in new ones. -/
theorem Own.upd {X X' : HP} (o : Own M (X :: R) w)
    (hX : ∀ a, X a → (∀ k ob, a k = some ob → M.B ≤ k ∧ w.heap[k]? = some ob) → ∃ a', X' a' ∧ (∀ k ob, a' k = some ob → (a k ≠ Option.none ∨ w.heap.size ≤ k) ∧ w'.heap[k]? = some ob) ∧ (∀ k, k < w.heap.size → a k = Option.none → w'.heap[k]? = w.heap[k]?))
    (hsize : w.heap.size ≤ w'.heap.size) (hos : w'.os = w.os) (htape : w'.tape = w.tape) (hout : w'.output = w.output) : Own M (X' :: R) w' := by
  obtain ⟨h, ⟨a, c, ha, hc, hd, e⟩, hs⟩ := o.ex
  subst e
  have hsa : ∀ k ob, a k = some ob → M.B ≤ k ∧ w.heap[k]? = some ob := fun k ob hk => hs k ob (Hp.un_l hk)
  have hsc : ∀ k ob, c k = some ob → M.B ≤ k ∧ w.heap[k]? = some ob := fun k ob hk => hs k ob (Hp.un_r hd hk)
  obtain ⟨a', ha', h1, h2⟩ := hX a ha hsa
  have hlt : ∀ k ob, c k = some ob → k < w.heap.size := fun k ob hk => (Array.getElem?_eq_some_iff.1 (hsc k ob hk).2).1
  have hB := o.size
  refine ⟨o.below.trans ⟨hos, htape, hout, hsize, fun k hk => h2 k (by omega) ?_⟩, by omega, a'.un c, ⟨a', c, ha', hc, fun k => ?_, _root_.rfl⟩, fun k ob hk => ?_⟩
  · cases hk' : a k with
    | none => rfl
    | some ob => have := (hsa k ob hk').1; omega
  · cases hk : a' k with
    | none => exact .inl _root_.rfl
    | some ob =>
      refine .inr ?_
      cases hck : c k with
      | none => rfl
      | some oc =>
        exfalso
        rcases (h1 k ob hk).1 with hn | hn
        · rcases hd k with h | h
          · exact hn h
          · rw [hck] at h; cases h
        · have := hlt k oc hck; omega
  · rcases Hp.un_some hk with hk | ⟨_, hk⟩
    · refine ⟨?_, (h1 k ob hk).2⟩
      rcases (h1 k ob hk).1 with hn | hn
      · cases hk' : a k with
        | none => exact absurd hk' hn
        | some ob => exact (hsa k ob hk').1
      · omega
    · refine ⟨(hsc k ob hk).1, (h2 k (hlt k ob hk) ?_).trans (hsc k ob hk).2⟩
      rcases hd k with h | h
      · exact h
      · rw [hk] at h; cases h

/-- A block's content is replaced. -/
theorem Own.put {b : Nat} {cs cs' : List Value} {T T' : TypeId} (o : Own M (Go.Proofs.Ytmakdilmibjpbab.blk b cs T :: R) w) (hb : w'.heap[b]? = some (.cells cs'.toArray T' (0, 0)))
    (hk : ∀ k, k < w.heap.size → k ≠ b → w'.heap[k]? = w.heap[k]?) (hsize : w.heap.size ≤ w'.heap.size) (hos : w'.os = w.os) (htape : w'.tape = w.tape) (hout : w'.output = w.output) :
    Own M (Go.Proofs.Ytmakdilmibjpbab.blk b cs' T' :: R) w' := by
  refine o.upd (fun a ha _ => ⟨_, _root_.rfl, fun k ob hk' => ?_, fun k hlt hn => ?_⟩) hsize hos htape hout
  · have ha' : a = fun k => if k = b then some (.cells cs.toArray T (0, 0)) else Option.none := ha
    by_cases e : k = b
    · subst e; simp at hk'; subst hk'
      exact ⟨.inl (by rw [ha']; simp), hb⟩
    · simp [e] at hk'
  · have ha' : a = fun k => if k = b then some (.cells cs.toArray T (0, 0)) else Option.none := ha
    refine hk k hlt fun e => ?_
    subst e; rw [ha'] at hn; simp at hn

theorem setCell_heap (w : World) (a : Addr) (v : Value) (k : Nat) (h : k ≠ a.block) : (w.setCell a v).heap[k]? = w.heap[k]? := Below.heap_setCell w a v k h

theorem Own.store {b i : Nat} {cs : List Value} {T : TypeId} (o : Own M (Go.Proofs.Ytmakdilmibjpbab.blk b cs T :: R) w) (v : Value) : Own M (Go.Proofs.Ytmakdilmibjpbab.blk b (cs.set i v) T :: R) (w.setCell ⟨b, i, Option.none⟩ v) := by
  refine o.put (T' := T) ?_ (fun k _ hne => setCell_heap _ _ _ _ hne) (by simp [World.setCell]) _root_.rfl _root_.rfl _root_.rfl
  simp [World.setCell, Array.getElem?_modify, o.blk.2]

end Go.Proofs.Ytmakdilmibjpbab
