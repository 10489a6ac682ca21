/- What came in: flat values and slices of them, read off the data of a call; the frame of a statement. -/
import Derived.Test.YtmakdilmibjpbacGreatFacts
import Derived.Test.YtmakdilmibjpbacGreatPlain
import Derived.Test.YtmakdilmibjpbacGreatRows
import Derived.ProofKit
import Derived.OpenShut
import Derived.ChangeOld
import Derived.Below
namespace Go.Proofs.YtmakdilmibjpbacGreat
open Go Go.RowKit Go.ChangeShapes Go.WideShapes Go.ChangeAt

inductive Lk where
  | b : Lk
  | i (k : IntKind) : Lk

def okL : Lk → Value → Prop
  | .b, .bool _ => True
  | .i k, .int k' n => k' = k ∧ (Lit.int k n).wf = true
  | _, _ => False

def AllL : List Lk → List Value → Prop
  | [], [] => True
  | k :: ks, v :: vs => okL k v ∧ AllL ks vs
  | _, _ => False

theorem AllL.app : ∀ {a b : List Lk} {x y : List Value}, AllL a x → AllL b y → AllL (a ++ b) (x ++ y)
  | [], _, [], _, _, h => h
  | _ :: _, _, _ :: _, _, h, k => ⟨h.1, AllL.app h.2 k⟩
  | [], _, _ :: _, _, h, _ => h.elim
  | _ :: _, _, [], _, h, _ => h.elim
theorem AllL.len : ∀ {a : List Lk} {x : List Value}, AllL a x → x.length = a.length
  | [], [], _ => rfl
  | _ :: _, _ :: _, h => by simp [AllL.len h.2]
  | [], _ :: _, h => h.elim
  | _ :: _, [], h => h.elim
theorem AllL.one : ∀ {a : List Lk} {x : List Value}, AllL a x → ∀ v ∈ x, v.oneCell' = true
  | [], [], _, _, h => by simp at h
  | k :: _, v :: _, h, u, hu => by
    rcases List.mem_cons.1 hu with rfl | hu
    · have h1 := h.1
      cases k <;> cases u <;> simp_all [okL, Value.oneCell']
    · exact AllL.one h.2 u hu
  | [], _ :: _, h, _, _ => h.elim
  | _ :: _, [], h, _, _ => h.elim

def fieldsK (g : TypeId → Option (List Lk)) (P : Program) : List Field → Nat → Option (List Lk)
  | [], _ => some []
  | f :: fs, off =>
    if f.offset = off then
      match g f.type with
      | some a => if a.length = P.cellsOf f.type then (fieldsK g P fs (off + a.length)).map (a ++ ·) else Option.none
      | Option.none => Option.none
    else Option.none

def kinds (P : Program) : Nat → TypeId → Option (List Lk)
  | 0, _ => Option.none
  | n + 1, t =>
    match P.underlying t with
    | some .bool => some [.b]
    | some (.int k) => some [.i k]
    | some (.struct fs) =>
      match fieldsK (kinds P n) P fs.toList 0 with
      | some ks => if ks.length = P.cellsOf t then some ks else Option.none
      | Option.none => Option.none
    | _ => Option.none

theorem fieldsK_ok {g : TypeId → Option (List Lk)} {P : Program} {cs : List Value} : ∀ (fs : List Field) (off : Nat) (ks : List Lk), fieldsK g P fs off = some ks →
    (∀ f ∈ fs, ∀ a, g f.type = some a → AllL a ((cs.drop f.offset).take (P.cellsOf f.type))) → AllL ks ((cs.drop off).take ks.length)
  | [], off, ks, h, _ => by simp [fieldsK] at h; subst h; simp [AllL]
  | f :: fs, off, ks, h, hf => by
    unfold fieldsK at h
    split at h
    · rename_i he
      split at h
      · rename_i a ha
        split at h
        · rename_i hl
          rw [Option.map_eq_some_iff] at h
          obtain ⟨b, hb, rfl⟩ := h
          have h1 := hf f (by simp) a ha
          rw [he, ← hl] at h1
          have h2 := fieldsK_ok fs (off + a.length) b hb (fun f' hf' => hf f' (by simp [hf']))
          rw [List.length_append, List.take_add, List.drop_drop]
          exact h1.app h2
        · cases h
      · cases h
    · cases h

theorem kinds_ok {H : Type} {enc : TypeId × Value → H} {P : Program} {w : World} {base : Nat} {spare : Nat → Bool} {held : Bool} : ∀ (n : Nat) (t : TypeId) (ks : List Lk), kinds P n t = some ks →
    ∀ (m : Nat) (cs : List Value) (x : DataW H × List MemPlace), DataW.trod enc P w base spare held m t cs = some x → AllL ks cs
  | 0, _, _, h, _, _, _, _ => by cases h
  | n + 1, t, ks, h, m, cs, x, ht => by
    unfold kinds at h
    split at h
    · rename_i hu
      cases h
      cases m with
      | zero => simp [DataW.trod] at ht
      | succ m =>
        unfold DataW.trod at ht
        rw [hu] at ht
        split at ht <;> simp_all [AllL, okL]
    · rename_i k hu
      cases h
      cases m with
      | zero => simp [DataW.trod] at ht
      | succ m =>
        unfold DataW.trod at ht
        rw [hu] at ht
        split at ht <;> simp_all [AllL, okL]
    · rename_i fs hu
      split at h
      · rename_i ks' hk
        split at h
        · rename_i hl
          cases h
          obtain ⟨xs, q, _, _, hlen, hx, hf⟩ := DataW.trod_struct hu ht
          have := fieldsK_ok (cs := cs) fs.toList 0 ks hk (fun f hm a ha => by
            obtain ⟨i, hi, e⟩ := List.mem_iff_getElem.1 hm
            have hi' : i < fs.size := by simpa using hi
            have hfi : fs[i]? = some f := by rw [Array.getElem?_eq_getElem hi']; simpa using e
            have h1 := hf i f hfi
            have h2 : i < xs.length := by omega
            rw [List.getElem?_eq_getElem h2] at h1
            exact kinds_ok n f.type a ha q _ _ h1)
          rw [hl, List.drop_zero, ← hlen, List.take_length] at this
          exact this
        · cases h
      · cases h
    · cases h

theorem cell_lt {w : World} {p : Addr} {v : Value} (h : w.cell? p = some v) : p.block < w.heap.size := by
  rcases Nat.lt_or_ge p.block w.heap.size with h1 | h1
  · exact h1
  · have : w.heap[p.block]? = Option.none := Array.getElem?_eq_none h1
    simp [World.cell?, this] at h

theorem cells_len {w : World} {base : Nat} {a : Addr} {n : Nat} {cs : List Value} (h : w.cells? base a n = some cs) : cs.length = n ∧ ∀ i u, cs[i]? = some u → w.cell? (a.add i) = some u := by
  unfold World.cells? at h
  split at h
  · have hh : ∀ (l : List Nat) (ds : List Value), l.mapM (fun i => w.cell? (a.add i)) = some ds → ds.length = l.length ∧ ∀ (k : Nat) (u : Value), ds[k]? = some u → ∃ i, l[k]? = some i ∧ w.cell? (a.add i) = some u := by
      intro l
      induction l with
      | nil => intro ds hd; simp at hd; subst hd; simp
      | cons j l ih =>
        intro ds hd
        rw [List.mapM_cons] at hd
        simp only [Option.bind_eq_bind, Option.bind_eq_some_iff, Option.pure_def, Option.some.injEq] at hd
        obtain ⟨v, hv, vs, hvs, rfl⟩ := hd
        obtain ⟨h1, h2⟩ := ih vs hvs
        refine ⟨by simp [h1], fun k u hk => ?_⟩
        cases k with
        | zero => simp at hk; subst hk; exact ⟨j, by simp, hv⟩
        | succ k => simp at hk; obtain ⟨i, hi, hc⟩ := h2 k u hk; exact ⟨i, by simpa using hi, hc⟩
    obtain ⟨h1, h2⟩ := hh _ _ h
    refine ⟨by simpa using h1, fun i u hu => ?_⟩
    obtain ⟨k, hk, hc⟩ := h2 i u hu
    rw [List.getElem?_range (by have := (List.getElem?_eq_some_iff.1 hu).1; simp at h1; omega)] at hk
    cases hk; exact hc
  · cases h

theorem flat_inv {sz : Nat} : ∀ {rows : List (List Value)}, (∀ r ∈ rows, r.length = sz) → ∀ j u, rows.flatten[j]? = some u → ∃ i r k, rows[i]? = some r ∧ r[k]? = some u ∧ j = i * sz + k
  | [], _, j, u, h => by simp at h
  | r0 :: rows, h, j, u, hj => by
    have hl := h r0 (by simp)
    simp only [List.flatten_cons] at hj
    rcases Nat.lt_or_ge j r0.length with h1 | h1
    · rw [List.getElem?_append_left h1] at hj
      exact ⟨0, r0, j, by simp, hj, by simp⟩
    · rw [List.getElem?_append_right h1] at hj
      obtain ⟨i, r, k, e1, e2, e3⟩ := flat_inv (fun r hr => h r (by simp [hr])) _ u hj
      exact ⟨i + 1, r, k, by simpa using e1, e2, by rw [Nat.succ_mul]; omega⟩

theorem own : ownKnob Tryz.prog.godebug = Option.none := by kernel_rfl
theorem laidOut : laidOutB Tryz.prog = true := by kernel_rfl

theorem okI {k : IntKind} {v : Value} (h : okL (.i k) v) : ∃ n, v = .int k n ∧ (Lit.int k n).wf = true := by
  cases v <;> simp_all [okL]
theorem rows_of {α : Type} {f : α → List Value} {ks : List Lk} (h : ∀ r, AllL ks r → ∃ a, r = f a) : ∀ {rows : List (List Value)}, (∀ r ∈ rows, AllL ks r) → ∃ l : List α, rows = l.map f
  | [], _ => ⟨[], rfl⟩
  | r :: rows, hr => by
    obtain ⟨l, rfl⟩ := rows_of (rows := rows) h (fun r' hr' => hr r' (List.mem_cons_of_mem _ hr'))
    obtain ⟨a, rfl⟩ := h r (hr r (by simp))
    exact ⟨a :: l, rfl⟩
end Go.Proofs.YtmakdilmibjpbacGreat
