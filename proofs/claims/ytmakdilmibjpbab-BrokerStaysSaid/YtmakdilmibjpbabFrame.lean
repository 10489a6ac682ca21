/- What came in: flat values and slices of them, read off the data of a call; the frame of a statement. -/
import Derived.Test.YtmakdilmibjpbabFacts
import Derived.Test.YtmakdilmibjpbabPlain
import Derived.Test.YtmakdilmibjpbabRows
import Derived.ProofKit
import Derived.OpenShut
import Derived.ChangeOld
import Derived.Below
namespace Go.Proofs.Ytmakdilmibjpbab
open Go Go.RowKit Go.ChangeShapes Go.WideShapes Go.ChangeAt

inductive Lk where
  | b : Lk
  | i (k : IntKind) : Lk

def okL : Lk → Value → Prop
  | .b, .bool _ => True
  | .i k, .int k' n => k' = k ∧ (Lit.int k n).wf = true
  | _, _ => False

def AllL : List Lk → List Value → Prop
  | [], [] => True
  | k :: ks, v :: vs => okL k v ∧ AllL ks vs
  | _, _ => False

theorem AllL.app : ∀ {a b : List Lk} {x y : List Value}, AllL a x → AllL b y → AllL (a ++ b) (x ++ y)
  | [], _, [], _, _, h => h
  | _ :: _, _, _ :: _, _, h, k => ⟨h.1, AllL.app h.2 k⟩
  | [], _, _ :: _, _, h, _ => h.elim
  | _ :: _, _, [], _, h, _ => h.elim
theorem AllL.len : ∀ {a : List Lk} {x : List Value}, AllL a x → x.length = a.length
  | [], [], _ => rfl
  | _ :: _, _ :: _, h => by simp [AllL.len h.2]
  | [], _ :: _, h => h.elim
  | _ :: _, [], h => h.elim
theorem AllL.one : ∀ {a : List Lk} {x : List Value}, AllL a x → ∀ v ∈ x, v.oneCell' = true
  | [], [], _, _, h => by simp at h
  | k :: _, v :: _, h, u, hu => by
    rcases List.mem_cons.1 hu with rfl | hu
    · have h1 := h.1
      cases k <;> cases u <;> simp_all [okL, Value.oneCell']
    · exact AllL.one h.2 u hu
  | [], _ :: _, h, _, _ => h.elim
  | _ :: _, [], h, _, _ => h.elim

def fieldsK (g : TypeId → Option (List Lk)) (P : Program) : List Field → Nat → Option (List Lk)
  | [], _ => some []
  | f :: fs, off =>
    if f.offset = off then
      match g f.type with
      | some a => if a.length = P.cellsOf f.type then (fieldsK g P fs (off + a.length)).map (a ++ ·) else Option.none
      | Option.none => Option.none
    else Option.none

def kinds (P : Program) : Nat → TypeId → Option (List Lk)
  | 0, _ => Option.none
  | n + 1, t =>
    match P.underlying t with
    | some .bool => some [.b]
    | some (.int k) => some [.i k]
    | some (.struct fs) =>
      match fieldsK (kinds P n) P fs.toList 0 with
      | some ks => if ks.length = P.cellsOf t then some ks else Option.none
      | Option.none => Option.none
    | _ => Option.none

theorem fieldsK_ok {g : TypeId → Option (List Lk)} {P : Program} {cs : List Value} : ∀ (fs : List Field) (off : Nat) (ks : List Lk), fieldsK g P fs off = some ks →
    (∀ f ∈ fs, ∀ a, g f.type = some a → AllL a ((cs.drop f.offset).take (P.cellsOf f.type))) → AllL ks ((cs.drop off).take ks.length)
  | [], off, ks, h, _ => by simp [fieldsK] at h; subst h; simp [AllL]
  | f :: fs, off, ks, h, hf => by
    unfold fieldsK at h
    split at h
    · rename_i he
      split at h
      · rename_i a ha
        split at h
        · rename_i hl
          rw [Option.map_eq_some_iff] at h
          obtain ⟨b, hb, rfl⟩ := h
          have h1 := hf f (by simp) a ha
          rw [he, ← hl] at h1
          have h2 := fieldsK_ok fs (off + a.length) b hb (fun f' hf' => hf f' (by simp [hf']))
          rw [List.length_append, List.take_add, List.drop_drop]
          exact h1.app h2
        · cases h
      · cases h
    · cases h

theorem kinds_ok {H : Type} {enc : TypeId × Value → H} {P : Program} {w : World} {base : Nat} {spare : Nat → Bool} {held : Bool} : ∀ (n : Nat) (t : TypeId) (ks : List Lk), kinds P n t = some ks →
    ∀ (m : Nat) (cs : List Value) (x : DataW H × List MemPlace), DataW.trod enc P w base spare held m t cs = some x → AllL ks cs
  | 0, _, _, h, _, _, _, _ => by cases h
  | n + 1, t, ks, h, m, cs, x, ht => by
    unfold kinds at h
    split at h
    · rename_i hu
      cases h
      cases m with
      | zero => simp [DataW.trod] at ht
      | succ m =>
        unfold DataW.trod at ht
        rw [hu] at ht
        split at ht <;> simp_all [AllL, okL]
    · rename_i k hu
      cases h
      cases m with
      | zero => simp [DataW.trod] at ht
      | succ m =>
        unfold DataW.trod at ht
        rw [hu] at ht
        split at ht <;> simp_all [AllL, okL]
    · rename_i fs hu
      split at h
      · rename_i ks' hk
        split at h
        · rename_i hl
          cases h
          obtain ⟨xs, q, _, _, hlen, hx, hf⟩ := DataW.trod_struct hu ht
          have := fieldsK_ok (cs := cs) fs.toList 0 ks hk (fun f hm a ha => by
            obtain ⟨i, hi, e⟩ := List.mem_iff_getElem.1 hm
            have hi' : i < fs.size := by simpa using hi
            have hfi : fs[i]? = some f := by rw [Array.getElem?_eq_getElem hi']; simpa using e
            have h1 := hf i f hfi
            have h2 : i < xs.length := by omega
            rw [List.getElem?_eq_getElem h2] at h1
            exact kinds_ok n f.type a ha q _ _ h1)
          rw [hl, List.drop_zero, ← hlen, List.take_length] at this
          exact this
        · cases h
      · cases h
    · cases h

/-- A flat struct that came in. -/
theorem open_flat {H : Type} {enc : TypeId × Value → H} {P : Program} {w : World} {base b0 : Nat} {spare : Nat → Bool} {held : Bool} {t : TypeId} {v : Value} {d : DataW H} {ps : List MemPlace} {fs : Array Field} {ks : List Lk} {r : Reach}
    (hu : P.underlying t = some (.struct fs)) (hk : kinds P 9 t = some ks) (hval : Value.okWide P w r b0 t v) (hd : DataW.Trod enc P w base spare held t v d ps) : ∃ cs : List Value, v = .agg cs.toArray ∧ AllL ks cs := by
  obtain ⟨cs, rfl, _⟩ := okWide_struct hu hval
  obtain ⟨m, hm⟩ := hd
  exact ⟨cs.toList, by simp, kinds_ok 9 t ks hk m _ _ (by simpa [Value.cells] using hm)⟩

theorem cell_lt {w : World} {p : Addr} {v : Value} (h : w.cell? p = some v) : p.block < w.heap.size := by
  rcases Nat.lt_or_ge p.block w.heap.size with h1 | h1
  · exact h1
  · have : w.heap[p.block]? = Option.none := Array.getElem?_eq_none h1
    simp [World.cell?, this] at h

theorem cells_len {w : World} {base : Nat} {a : Addr} {n : Nat} {cs : List Value} (h : w.cells? base a n = some cs) : cs.length = n ∧ ∀ i u, cs[i]? = some u → w.cell? (a.add i) = some u := by
  unfold World.cells? at h
  split at h
  · have hh : ∀ (l : List Nat) (ds : List Value), l.mapM (fun i => w.cell? (a.add i)) = some ds → ds.length = l.length ∧ ∀ (k : Nat) (u : Value), ds[k]? = some u → ∃ i, l[k]? = some i ∧ w.cell? (a.add i) = some u := by
      intro l
      induction l with
      | nil => intro ds hd; simp at hd; subst hd; simp
      | cons j l ih =>
        intro ds hd
        rw [List.mapM_cons] at hd
        simp only [Option.bind_eq_bind, Option.bind_eq_some_iff, Option.pure_def, Option.some.injEq] at hd
        obtain ⟨v, hv, vs, hvs, rfl⟩ := hd
        obtain ⟨h1, h2⟩ := ih vs hvs
        refine ⟨by simp [h1], fun k u hk => ?_⟩
        cases k with
        | zero => simp at hk; subst hk; exact ⟨j, by simp, hv⟩
        | succ k => simp at hk; obtain ⟨i, hi, hc⟩ := h2 k u hk; exact ⟨i, by simpa using hi, hc⟩
    obtain ⟨h1, h2⟩ := hh _ _ h
    refine ⟨by simpa using h1, fun i u hu => ?_⟩
    obtain ⟨k, hk, hc⟩ := h2 i u hu
    rw [List.getElem?_range (by have := (List.getElem?_eq_some_iff.1 hu).1; simp at h1; omega)] at hk
    cases hk; exact hc
  · cases h

theorem flat_inv {sz : Nat} : ∀ {rows : List (List Value)}, (∀ r ∈ rows, r.length = sz) → ∀ j u, rows.flatten[j]? = some u → ∃ i r k, rows[i]? = some r ∧ r[k]? = some u ∧ j = i * sz + k
  | [], _, j, u, h => by simp at h
  | r0 :: rows, h, j, u, hj => by
    have hl := h r0 (by simp)
    simp only [List.flatten_cons] at hj
    rcases Nat.lt_or_ge j r0.length with h1 | h1
    · rw [List.getElem?_append_left h1] at hj
      exact ⟨0, r0, j, by simp, hj, by simp⟩
    · rw [List.getElem?_append_right h1] at hj
      obtain ⟨i, r, k, e1, e2, e3⟩ := flat_inv (fun r hr => h r (by simp [hr])) _ u hj
      exact ⟨i + 1, r, k, by simpa using e1, e2, by rw [Nat.succ_mul]; omega⟩

/-- A slice of flat elements that came in. -/
theorem open_rows {H : Type} {enc : TypeId × Value → H} {P : Program} {w : World} {b0 : Nat} {held : Bool} {t e : TypeId} {v : Value} {d : DataW H} {ps : List MemPlace} {ks : List Lk} {r : Reach} {n : Nat} {HH : List HP} {B : Nat} (hB : B = w.heap.size)
    (hu : P.underlying t = some (.slice e)) (hk : kinds P 9 e = some ks) (hn : ks.length = n) (hc : P.cellsOf e = n) (hval : Value.okWide P w r b0 t v) (hd : DataW.Trod enc P w 0 (fun _ => true) held t v d ps) :
    ∃ rows : List (List Value), Rd ⟨B, w⟩ HH v n rows ∧ ∀ r ∈ rows, AllL ks r := by
  subst hB
  obtain ⟨m, hm⟩ := hd
  have hs : ∀ a l c, v = .slice (some a) l c → a.spot = Option.none := by
    rintro a l c rfl
    simp only [Value.okWide, hu, Cell.okWide, Cell.ok] at hval
    exact hval.2.2.2.1
  obtain ⟨a, len, cap, rfl⟩ := okWide_slice hu hval
  have hv : ∀ x l c, (Value.slice x l c).cells.toList = [.slice x l c] := fun x l c => by simp [Value.cells]
  rw [hv] at hm
  rcases DataW.trod_slice hu hm with ⟨h0, _⟩ | ⟨a', len', cap', elems, rest, q, _, h0, _, _, hl, hm', hlen, hel, _, _⟩
  · simp at h0
    obtain ⟨rfl, rfl, rfl⟩ := h0
    exact ⟨[], ⟨fun r hr => by simp at hr, Option.none, 0, by simp, by simp, by simp [maxLen], by simp, fun A hA _ => by cases hA⟩, fun r hr => by simp at hr⟩
  · simp at h0
    obtain ⟨rfl, rfl, rfl⟩ := h0
    have hsp := hs a' len cap rfl
    have hrow : ∀ i, i < len → ∃ cs, w.cells? 0 (a'.add (i * n)) n = some cs ∧ AllL ks cs := fun i hi => by
      have h1 := hel i hi
      rw [List.getElem?_eq_getElem (by omega), hc] at h1
      simp only [Option.bind_eq_some_iff] at h1
      obtain ⟨cs, h2, h3⟩ := h1
      exact ⟨cs, h2, kinds_ok 9 e ks hk q _ _ h3⟩
    let row : Nat → List Value := fun i => (w.cells? 0 (a'.add (i * n)) n).getD []
    have hrow' : ∀ i, i < len → w.cells? 0 (a'.add (i * n)) n = some (row i) ∧ AllL ks (row i) := fun i hi => by
      obtain ⟨cs, h1, h2⟩ := hrow i hi
      simp only [row, h1, Option.getD_some]; exact ⟨trivial, h2⟩
    have hal : ∀ r ∈ (List.range len).map row, AllL ks r := fun r hr => by
      obtain ⟨i, hi, rfl⟩ := List.mem_map.1 hr
      exact (hrow' i (List.mem_range.1 hi)).2
    refine ⟨(List.range len).map row, ⟨fun r hr => ⟨(hal r hr).len.trans hn, fun u hu => (hal r hr).one u hu⟩, some a', cap, by simp, by simpa using hl, hm', (fun h => by cases h), fun A hA _ => ?_⟩, hal⟩
    cases hA
    refine ⟨hsp, fun w' ho j u hu => ?_⟩
    obtain ⟨i, r, k, e1, e2, rfl⟩ := flat_inv (fun r hr => (hal r hr).len.trans hn) j u hu
    rw [List.getElem?_map] at e1
    obtain ⟨i', hi', rfl⟩ := Option.map_eq_some_iff.1 e1
    have hil : i < len := by
      have := (List.getElem?_eq_some_iff.1 hi').1; simpa using this
    rw [List.getElem?_range hil] at hi'
    cases hi'
    have h1 := (cells_len (hrow' i hil).1).2 k u e2
    obtain ⟨b, off, spot⟩ := a'
    simp at hsp; subst hsp
    have h2 : w.cell? ⟨b, off + (i * n + k), Option.none⟩ = some u := by
      rw [addr_add, addr_add, Nat.add_assoc] at h1; exact h1
    rw [ho.below.cell (cell_lt h2)]
    exact h2

theorem own : ownKnob Try.prog.godebug = Option.none := by kernel_rfl
theorem laidOut : laidOutB Try.prog = true := by kernel_rfl

theorem okI {k : IntKind} {v : Value} (h : okL (.i k) v) : ∃ n, v = .int k n ∧ (Lit.int k n).wf = true := by
  cases v <;> simp_all [okL]
theorem okB {v : Value} (h : okL .b v) : ∃ n, v = .bool n := by
  cases v <;> simp_all [okL]
theorem al3 {a b c : IntKind} {cs : List Value} (h : AllL [.i a, .i b, .i c] cs) : ∃ x y z, cs = [.int a x, .int b y, .int c z] := by
  match cs, h with
  | [u, v, w], ⟨h1, h2, h3, _⟩ =>
    obtain ⟨x, rfl, _⟩ := okI h1
    obtain ⟨y, rfl, _⟩ := okI h2
    obtain ⟨z, rfl, _⟩ := okI h3
    exact ⟨x, y, z, rfl⟩

theorem rows_of {α : Type} {f : α → List Value} {ks : List Lk} (h : ∀ r, AllL ks r → ∃ a, r = f a) : ∀ {rows : List (List Value)}, (∀ r ∈ rows, AllL ks r) → ∃ l : List α, rows = l.map f
  | [], _ => ⟨[], rfl⟩
  | r :: rows, hr => by
    obtain ⟨l, rfl⟩ := rows_of (rows := rows) h (fun r' hr' => hr r' (List.mem_cons_of_mem _ hr'))
    obtain ⟨a, rfl⟩ := h r (hr r (by simp))
    exact ⟨a :: l, rfl⟩
theorem rows_int {rows : List (List Value)} (h : ∀ r ∈ rows, AllL [.i .i64] r) : ∃ l : List Int, rows = l.map rI :=
  rows_of (fun r hr => by
    match r, hr with
    | [u], ⟨h1, _⟩ => obtain ⟨x, rfl, _⟩ := okI h1; exact ⟨x, rfl⟩) h
theorem rows_bool {rows : List (List Value)} (h : ∀ r ∈ rows, AllL [.b] r) : ∃ l : List Bool, rows = l.map rB :=
  rows_of (fun r hr => by
    match r, hr with
    | [u], ⟨h1, _⟩ => obtain ⟨x, rfl⟩ := okB h1; exact ⟨x, rfl⟩) h

end Go.Proofs.Ytmakdilmibjpbab
