/- Slices of structs with slices in them that came in. Steps of towns that came in. -/
import Derived.Test.YtmakdilmibjpbacGreatFrameW
import Derived.Test.YtmakdilmibjpbacGreatTownP
namespace Go.Proofs.YtmakdilmibjpbacGreat
open Go Go.RowKit Go.ChangeShapes Go.WideShapes Go.ChangeAt

theorem cell_spot {w : World} {p : Addr} {v : Value} (h : w.cell? p = some v) : p.spot = Option.none := by
  unfold World.cell? at h
  split at h
  · split at h
    · cases h
    · rename_i hs; simpa using hs
  · cases h
theorem add_zero (a : Addr) : a.add 0 = a := by simp [Addr.add]

/-- A slice of flat elements that lies in what came in. -/
theorem slice_rd {H : Type} {enc : TypeId × Value → H} {P : Program} {w : World} {held : Bool} {t e : TypeId} {v : Value} {x : DataW H × List MemPlace} {ks : List Lk} {n m : Nat} {HH : List HP}
    (hu : P.underlying t = some (.slice e)) (hk : kinds P 9 e = some ks) (hn : ks.length = n) (h0 : 0 < n) (hc : P.cellsOf e = n) (hm : DataW.trod enc P w 0 (fun _ => true) held m t [v] = some x) :
    ∃ rows : List (List Value), Rd ⟨w.heap.size, w⟩ HH v n rows ∧ ∀ r ∈ rows, AllL ks r := by
  rcases DataW.trod_slice hu hm with ⟨h0, _⟩ | ⟨a', len', cap', elems, rest, q, _, h0', _, _, hl, hm', hlen, hel, _, _⟩
  · simp at h0; subst h0
    exact ⟨[], ⟨fun r hr => by simp at hr, Option.none, 0, by simp, by simp, by simp [maxLen], by simp, fun A hA _ => by cases hA⟩, fun r hr => by simp at hr⟩
  · simp at h0'; subst h0'
    have hrow : ∀ i, i < len' → ∃ cs, w.cells? 0 (a'.add (i * n)) n = some cs ∧ AllL ks cs := fun i hi => by
      have h1 := hel i hi
      rw [List.getElem?_eq_getElem (by omega), hc] at h1
      simp only [Option.bind_eq_some_iff] at h1
      obtain ⟨cs, h2, h3⟩ := h1
      exact ⟨cs, h2, kinds_ok 9 e ks hk q _ _ h3⟩
    let row : Nat → List Value := fun i => (w.cells? 0 (a'.add (i * n)) n).getD []
    have hrow' : ∀ i, i < len' → w.cells? 0 (a'.add (i * n)) n = some (row i) ∧ AllL ks (row i) := fun i hi => by
      obtain ⟨cs, h1, h2⟩ := hrow i hi
      simp only [row, h1, Option.getD_some]; exact ⟨trivial, h2⟩
    have hal : ∀ r ∈ (List.range len').map row, AllL ks r := fun r hr => by
      obtain ⟨i, hi, rfl⟩ := List.mem_map.1 hr
      exact (hrow' i (List.mem_range.1 hi)).2
    refine ⟨(List.range len').map row, ⟨fun r hr => ⟨(hal r hr).len.trans hn, fun u hu => (hal r hr).one u hu⟩, some a', cap', by simp, by simpa using hl, hm', (fun h => by cases h), fun A hA hp => ?_⟩, hal⟩
    cases hA
    have hp' : 0 < len' := by simpa using hp
    have hsp : a'.spot = Option.none := by
      have h1 := hrow' 0 hp'
      have hl1 : 0 < (row 0).length := by rw [h1.2.len, hn]; exact h0
      have h2 := (cells_len h1.1).2 0 _ (List.getElem?_eq_getElem hl1)
      rw [Nat.zero_mul, add_zero, add_zero] at h2
      exact cell_spot h2
    refine ⟨hsp, fun w' ho j u hu => ?_⟩
    obtain ⟨i, r, k, e1, e2, rfl⟩ := flat_inv (fun r hr => (hal r hr).len.trans hn) j u hu
    rw [List.getElem?_map] at e1
    obtain ⟨i', hi', rfl⟩ := Option.map_eq_some_iff.1 e1
    have hil : i < len' := by
      have := (List.getElem?_eq_some_iff.1 hi').1; simpa using this
    rw [List.getElem?_range hil] at hi'
    cases hi'
    have h1 := (cells_len (hrow' i hil).1).2 k u e2
    obtain ⟨b, off, spot⟩ := a'
    simp at hsp; subst hsp
    have h2 : w.cell? ⟨b, off + (i * n + k), Option.none⟩ = some u := by
      rw [addr_add, addr_add, Nat.add_assoc] at h1; exact h1
    rw [ho.below.cell (cell_lt h2)]
    exact h2

inductive Lk2 where
  | f (k : Lk) : Lk2
  | s (ks : List Lk) : Lk2
def RowN (M : Amb) (HH : List HP) : List Lk2 → List Value → Prop
  | [], [] => True
  | .f k :: ks, v :: vs => okL k v ∧ RowN M HH ks vs
  | .s ls :: ks, v :: vs => (∃ rows : List (List Value), Rd M HH v ls.length rows ∧ ∀ r ∈ rows, AllL ls r) ∧ RowN M HH ks vs
  | _, _ => False
variable {M : Amb} {HH : List HP}
theorem RowN.len : ∀ {a : List Lk2} {x : List Value}, RowN M HH a x → x.length = a.length
  | [], [], _ => rfl
  | .f _ :: _, _ :: _, h => by simp [RowN.len h.2]
  | .s _ :: _, _ :: _, h => by simp [RowN.len h.2]
  | [], _ :: _, h => h.elim
  | .f _ :: _, [], h => h.elim
  | .s _ :: _, [], h => h.elim
theorem RowN.one : ∀ {a : List Lk2} {x : List Value}, RowN M HH a x → ∀ v ∈ x, v.oneCell' = true
  | [], [], _, _, h => by simp at h
  | .f k :: _, v :: _, h, u, hu => by
    rcases List.mem_cons.1 hu with rfl | hu
    · have h1 := h.1
      cases k <;> cases u <;> simp_all [okL, Value.oneCell']
    · exact RowN.one h.2 u hu
  | .s _ :: _, v :: _, h, u, hu => by
    rcases List.mem_cons.1 hu with rfl | hu
    · obtain ⟨rows, hr, _⟩ := h.1
      obtain ⟨ao, c, rfl⟩ := hr.shape
      rfl
    · exact RowN.one h.2 u hu
  | [], _ :: _, h, _, _ => h.elim
  | .f _ :: _, [], h, _, _ => h.elim
  | .s _ :: _, [], h, _, _ => h.elim
theorem RowN.flat : ∀ {a : List Lk} {b : List Lk2} {x y : List Value}, AllL a x → RowN M HH b y → RowN M HH (a.map .f ++ b) (x ++ y)
  | [], _, [], _, _, h => h
  | _ :: _, _, _ :: _, _, h, k => ⟨h.1, RowN.flat h.2 k⟩
  | [], _, _ :: _, _, h, _ => h.elim
  | _ :: _, _, [], _, h, _ => h.elim
def fieldsK2 (P : Program) : List Field → Nat → Option (List Lk2)
  | [], _ => some []
  | f :: fs, off =>
    if f.offset = off then
      match kinds P 9 f.type with
      | some a => if a.length = P.cellsOf f.type then (fieldsK2 P fs (off + a.length)).map (a.map .f ++ ·) else Option.none
      | Option.none => match P.underlying f.type with
        | some (.slice e) => match kinds P 9 e with
          | some ks => if ks.length = P.cellsOf e ∧ 0 < ks.length ∧ P.cellsOf f.type = 1 then (fieldsK2 P fs (off + 1)).map (.s ks :: ·) else Option.none
          | Option.none => Option.none
        | _ => Option.none
    else Option.none
theorem fieldsK2_ok {H : Type} {enc : TypeId × Value → H} {P : Program} {w : World} {held : Bool} {cs : List Value} {q : Nat} : ∀ (fs : List Field) (off : Nat) (ks : List Lk2), fieldsK2 P fs off = some ks → off + ks.length ≤ cs.length →
    (∀ f ∈ fs, ∃ x, DataW.trod enc P w 0 (fun _ => true) held q f.type ((cs.drop f.offset).take (P.cellsOf f.type)) = some x) → RowN ⟨w.heap.size, w⟩ HH ks ((cs.drop off).take ks.length)
  | [], off, ks, h, _, _ => by simp [fieldsK2] at h; subst h; simp [RowN]
  | f :: fs, off, ks, h, hle, hf => by
    unfold fieldsK2 at h
    split at h
    · rename_i he
      obtain ⟨x, hx⟩ := hf f (by simp)
      split at h
      · rename_i a ha
        split at h
        · rename_i hl
          rw [Option.map_eq_some_iff] at h
          obtain ⟨b, hb, rfl⟩ := h
          have h1 := kinds_ok 9 f.type a ha q _ _ hx
          rw [he, ← hl] at h1
          rw [List.length_append, List.length_map] at hle
          have h2 := fieldsK2_ok (cs := cs) fs (off + a.length) b hb (by omega) (fun f' hf' => hf f' (by simp [hf']))
          rw [List.length_append, List.length_map, List.take_add, List.drop_drop]
          exact RowN.flat h1 h2
        · cases h
      · split at h
        · rename_i e hu
          split at h
          · rename_i ks' hk
            split at h
            · rename_i hl
              rw [Option.map_eq_some_iff] at h
              obtain ⟨b, hb, rfl⟩ := h
              rw [List.length_cons] at hle
              have h2 := fieldsK2_ok (cs := cs) fs (off + 1) b hb (by omega) (fun f' hf' => hf f' (by simp [hf']))
              rw [List.length_cons, Nat.add_comm b.length 1, List.take_add, List.drop_drop]
              rw [he, hl.2.2] at hx
              have hlt : off < cs.length := by omega
              have e1 : (cs.drop off).take 1 = [cs[off]] := by rw [List.drop_eq_getElem_cons hlt]; rfl
              rw [e1] at hx ⊢
              exact ⟨slice_rd hu hk rfl hl.2.1 hl.1.symm hx, h2⟩
            · cases h
          · cases h
        · cases h
    · cases h

/-- A slice of structs with slices in them that came in. -/
theorem open_nest {H : Type} {enc : TypeId × Value → H} {P : Program} {w : World} {held : Bool} {t e : TypeId} {v : Value} {d : DataW H} {ps : List MemPlace} {fs : Array Field} {ks : List Lk2} {n b0 : Nat} {r : Reach} {B : Nat} (hB : B = w.heap.size)
    (hu : P.underlying t = some (.slice e)) (he : P.underlying e = some (.struct fs)) (hk : fieldsK2 P fs.toList 0 = some ks) (hn : ks.length = n) (h0 : 0 < n) (hc : P.cellsOf e = n) (hval : Value.okWide P w r b0 t v) (hd : DataW.Trod enc P w 0 (fun _ => true) held t v d ps) :
    ∃ rows : List (List Value), Rd ⟨B, w⟩ HH v n rows ∧ ∀ r ∈ rows, RowN ⟨B, w⟩ HH ks r := by
  subst hB
  obtain ⟨m, hm⟩ := hd
  obtain ⟨a, len, cap, rfl⟩ := okWide_slice hu hval
  have hv : ∀ x l c, (Value.slice x l c).cells.toList = [.slice x l c] := fun x l c => by simp [Value.cells]
  rw [hv] at hm
  rcases DataW.trod_slice hu hm with ⟨h0, _⟩ | ⟨a', len', cap', elems, rest, q, _, h0', _, _, hl, hm', hlen, hel, _, _⟩
  · simp at h0
    obtain ⟨rfl, rfl, rfl⟩ := h0
    exact ⟨[], ⟨fun r hr => by simp at hr, Option.none, 0, by simp, by simp, by simp [maxLen], by simp, fun A hA _ => by cases hA⟩, fun r hr => by simp at hr⟩
  · simp at h0'
    obtain ⟨rfl, rfl, rfl⟩ := h0'
    have hrow : ∀ i, i < len → ∃ cs, w.cells? 0 (a'.add (i * n)) n = some cs ∧ RowN ⟨w.heap.size, w⟩ HH ks cs := fun i hi => by
      have h1 := hel i hi
      rw [List.getElem?_eq_getElem (by omega), hc] at h1
      simp only [Option.bind_eq_some_iff] at h1
      obtain ⟨cs, h2, h3⟩ := h1
      obtain ⟨xs, q', _, _, hl1, hl2, hfd⟩ := DataW.trod_struct he h3
      have := fieldsK2_ok (HH := HH) (enc := enc) (held := held) (q := q') (cs := cs) fs.toList 0 ks hk (by rw [hl1, hc, hn]; omega) (fun f hf => by
        obtain ⟨j, hj, e⟩ := List.mem_iff_getElem.1 hf
        have hj' : j < fs.size := by simpa using hj
        have hfj : fs[j]? = some f := by rw [Array.getElem?_eq_getElem hj']; simpa using e
        have h4 := hfd j f hfj
        rw [List.getElem?_eq_getElem (by omega)] at h4
        exact ⟨_, h4⟩)
      rw [List.drop_zero, hn, ← hc, ← hl1, List.take_length] at this
      exact ⟨cs, h2, this⟩
    let row : Nat → List Value := fun i => (w.cells? 0 (a'.add (i * n)) n).getD []
    have hrow' : ∀ i, i < len → w.cells? 0 (a'.add (i * n)) n = some (row i) ∧ RowN ⟨w.heap.size, w⟩ HH ks (row i) := fun i hi => by
      obtain ⟨cs, h1, h2⟩ := hrow i hi
      simp only [row, h1, Option.getD_some]; exact ⟨trivial, h2⟩
    have hal : ∀ r ∈ (List.range len).map row, RowN ⟨w.heap.size, w⟩ HH ks r := fun r hr => by
      obtain ⟨i, hi, rfl⟩ := List.mem_map.1 hr
      exact (hrow' i (List.mem_range.1 hi)).2
    refine ⟨(List.range len).map row, ⟨fun r hr => ⟨(hal r hr).len.trans hn, fun u hu => (hal r hr).one u hu⟩, some a', cap, by simp, by simpa using hl, hm', (fun h => by cases h), fun A hA hp => ?_⟩, hal⟩
    cases hA
    have hp' : 0 < len := by simpa using hp
    have hsp : a'.spot = Option.none := by
      have h1 := hrow' 0 hp'
      have hl1 : 0 < (row 0).length := by rw [h1.2.len, hn]; exact h0
      have h2 := (cells_len h1.1).2 0 _ (List.getElem?_eq_getElem hl1)
      rw [Nat.zero_mul, add_zero, add_zero] at h2
      exact cell_spot h2
    refine ⟨hsp, fun w' ho j u hu => ?_⟩
    obtain ⟨i, r, k, e1, e2, rfl⟩ := flat_inv (fun r hr => (hal r hr).len.trans hn) j u hu
    rw [List.getElem?_map] at e1
    obtain ⟨i', hi', rfl⟩ := Option.map_eq_some_iff.1 e1
    have hil : i < len := by
      have := (List.getElem?_eq_some_iff.1 hi').1; simpa using this
    rw [List.getElem?_range hil] at hi'
    cases hi'
    have h1 := (cells_len (hrow' i hil).1).2 k u e2
    obtain ⟨b, off, spot⟩ := a'
    simp at hsp; subst hsp
    have h2 : w.cell? ⟨b, off + (i * n + k), Option.none⟩ = some u := by
      rw [addr_add, addr_add, Nat.add_assoc] at h1; exact h1
    rw [ho.below.cell (cell_lt h2)]
    exact h2
theorem rows_ofN {α : Type} {f : α → List Value} {ks : List Lk2} {φ : α → Prop} (h : ∀ r, RowN M HH ks r → ∃ a, r = f a ∧ φ a) : ∀ {rows : List (List Value)}, (∀ r ∈ rows, RowN M HH ks r) → ∃ l : List α, rows = l.map f ∧ ∀ a ∈ l, φ a
  | [], _ => ⟨[], rfl, by simp⟩
  | r :: rows, hr => by
    obtain ⟨l, rfl, hl⟩ := rows_ofN (rows := rows) h (fun r' hr' => hr r' (List.mem_cons_of_mem _ hr'))
    obtain ⟨a, rfl, ha⟩ := h r (hr r (by simp))
    exact ⟨a :: l, rfl, fun x hx => by rcases List.mem_cons.1 hx with rfl | hx; exact ha; exact hl x hx⟩

end Go.Proofs.YtmakdilmibjpbacGreat

namespace Go.Proofs.YtmakdilmibjpbacGreat
open Go Go.RowKit

abbrev kTS : List Lk2 := [.f (.i .i64), .f (.i .i64), .s [.i .i64, .i .i64]]
theorem one_TS {M : Amb} {HH : List HP} {r : List Value} (h : RowN M HH kTS r) : ∃ x : TStep, r = rTS x ∧ Rd M HH x.wv 2 (x.wants.map rW) := by
  match r, h with
  | [a, b, c], ⟨h1, h2, ⟨rows, h3, h4⟩, _⟩ =>
    obtain ⟨x1, rfl, _⟩ := okI h1
    obtain ⟨x2, rfl, _⟩ := okI h2
    obtain ⟨l, rfl⟩ := rows_W h4
    exact ⟨⟨x1, x2, c, l⟩, rfl, h3⟩
theorem rows_TS {M : Amb} {HH : List HP} {rows : List (List Value)} (h : ∀ r ∈ rows, RowN M HH kTS r) : ∃ l : List TStep, rows = l.map rTS ∧ ∀ x ∈ l, Rd M HH x.wv 2 (x.wants.map rW) :=
  rows_ofN (fun _ hr => one_TS hr) h

end Go.Proofs.YtmakdilmibjpbacGreat
