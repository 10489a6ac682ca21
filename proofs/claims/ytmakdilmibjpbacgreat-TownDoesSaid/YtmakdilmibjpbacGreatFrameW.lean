/- Wants and worlds that came in. -/
import Derived.Test.YtmakdilmibjpbacGreatFrame
import Derived.Test.YtmakdilmibjpbacGreatWants
import Derived.OpenShut
namespace Go.Proofs.YtmakdilmibjpbacGreat
open Go Go.RowKit Go.ChangeShapes Go.WideShapes Go.ChangeAt

theorem one_W {r : List Value} (h : AllL [.i .i64, .i .i64] r) : ∃ w : Want, r = rW w := by
  match r, h with
  | [a, b], ⟨h1, h2, _⟩ =>
    obtain ⟨x1, rfl, _⟩ := okI h1
    obtain ⟨x2, rfl, _⟩ := okI h2
    exact ⟨⟨x1, x2⟩, rfl⟩
theorem rows_W {rows : List (List Value)} (h : ∀ r ∈ rows, AllL [.i .i64, .i .i64] r) : ∃ l : List Want, rows = l.map rW := rows_of (fun _ hr => one_W hr) h
theorem okWide_arr {P : Program} {w : World} {r : Reach} {b0 n : Nat} {t e : TypeId} {v : Value} (ht : P.underlying t = some (.array n e)) (h : Value.okWide P w r b0 t v) : ∃ cs, v = .agg cs ∧ cs.size = P.cellsOf t := by
  simp only [Value.okWide, ht] at h
  obtain ⟨cs, h1, h2, _⟩ := h
  exact ⟨cs, h1, h2⟩
theorem wf64 {n : Int} (h : (Lit.int .i64 n).wf = true) : -9223372036854775808 ≤ n ∧ n ≤ 9223372036854775807 := by
  have e1 : IntKind.i64.min = -9223372036854775808 := by decide
  have e2 : IntKind.i64.max = 9223372036854775807 := by decide
  simp only [Lit.wf, Bool.and_eq_true, decide_eq_true_eq, e1, e2] at h
  exact h
theorem open_world {H : Type} {enc : TypeId × Value → H} {P : Program} {w : World} {base b0 n : Nat} {spare : Nat → Bool} {held : Bool} {t e : TypeId} {v : Value} {d : DataW H} {ps : List MemPlace} {r : Reach}
    (hu : P.underlying t = some (.array n e)) (hk : kinds P 9 e = some [.i .i64]) (hc : P.cellsOf e = 1) (hct : P.cellsOf t = n) (hval : Value.okWide P w r b0 t v) (hd : DataW.Trod enc P w base spare held t v d ps) :
    ∃ ws : List Int, ws.length = n ∧ v = .agg (ws.map vI).toArray ∧ ∀ x ∈ ws, -9223372036854775808 ≤ x ∧ x ≤ 9223372036854775807 := by
  obtain ⟨cs, rfl, hsz⟩ := okWide_arr hu hval
  obtain ⟨m, hm⟩ := hd
  obtain ⟨xs, q, _, _, hlen, hx, hf⟩ := DataW.trod_array hu hm
  have hlen' : cs.toList.length = n := by simpa [Value.cells, hct] using hsz.trans hct
  have hcell : ∀ i, i < n → ∃ x, cs.toList[i]? = some (.int .i64 x) ∧ -9223372036854775808 ≤ x ∧ x ≤ 9223372036854775807 := fun i hi => by
    have h1 := hf i hi
    rw [List.getElem?_eq_getElem (by omega), hc, Nat.mul_one] at h1
    have h2 := kinds_ok 9 e _ hk q _ _ h1
    have h3 : (List.take 1 (List.drop i cs.toList)) = [cs.toList[i]'(by omega)] := by
      rw [List.drop_eq_getElem_cons (by omega : i < cs.toList.length)]; rfl
    have h4 : AllL [.i .i64] [cs.toList[i]'(by omega)] := by rw [← h3]; simpa [Value.cells] using h2
    obtain ⟨h5, _⟩ := h4
    obtain ⟨x, e, hw⟩ := okI h5
    exact ⟨x, by rw [List.getElem?_eq_getElem (by omega), e], wf64 hw⟩
  let g : Value → Int := fun v => match v with | .int _ x => x | _ => 0
  refine ⟨cs.toList.map g, by simpa using hlen', ?_, fun x hx => ?_⟩
  · have : (cs.toList.map g).map vI = cs.toList := by
      refine List.ext_getElem? fun i => ?_
      rcases Nat.lt_or_ge i n with hi | hi
      · obtain ⟨x, hx, _⟩ := hcell i hi
        rw [List.getElem?_map, List.getElem?_map, hx]; rfl
      · rw [List.getElem?_eq_none (by simp; simp at hlen'; omega), List.getElem?_eq_none (by omega)]
    rw [this]
  · obtain ⟨v, hv, rfl⟩ := List.mem_map.1 hx
    obtain ⟨i, hi, e⟩ := List.mem_iff_getElem.1 hv
    obtain ⟨x, hx, hb⟩ := hcell i (by omega)
    rw [List.getElem?_eq_getElem hi, e] at hx
    cases hx; exact hb

end Go.Proofs.YtmakdilmibjpbacGreat
