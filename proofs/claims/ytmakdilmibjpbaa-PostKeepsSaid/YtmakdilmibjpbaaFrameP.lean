/- Steps of posts that came in. -/
import Derived.Test.YtmakdilmibjpbaaFrame
import Derived.Test.YtmakdilmibjpbaaPost
namespace Go.Proofs.Ytmakdilmibjpbaa
open Go Go.RowKit

abbrev kPS : List Lk := [.i .i64, .i .i64, .i .i64, .i .i64, .i .i64, .i .i64, .i .i64, .b]
theorem one_PS {r : List Value} (h : AllL kPS r) : ∃ s, r = rPS s := by
  match r, h with
  | [a, b, c, d, e, f, g, i], ⟨h1, h2, h3, h4, h5, h6, h7, h8, _⟩ =>
    obtain ⟨x1, rfl, _⟩ := okI h1
    obtain ⟨x2, rfl, _⟩ := okI h2
    obtain ⟨x3, rfl, _⟩ := okI h3
    obtain ⟨x4, rfl, _⟩ := okI h4
    obtain ⟨x5, rfl, _⟩ := okI h5
    obtain ⟨x6, rfl, _⟩ := okI h6
    obtain ⟨x7, rfl, _⟩ := okI h7
    obtain ⟨x8, rfl⟩ := okB h8
    exact ⟨⟨x1, x2, ⟨x3, x4, x5, x6, x7, x8⟩⟩, rfl⟩
theorem rows_PS {rows : List (List Value)} (h : ∀ r ∈ rows, AllL kPS r) : ∃ l : List PStep, rows = l.map rPS := rows_of (fun _ hr => one_PS hr) h

end Go.Proofs.Ytmakdilmibjpbaa
