/- Records that came in. -/
import Derived.Test.YtmakdilmibjpbabFrameW
import Derived.Test.YtmakdilmibjpbabKeepP
namespace Go.Proofs.Ytmakdilmibjpbab
open Go Go.RowKit

theorem one_Rec {r : List Value} (h : AllL [.i .i64, .i .i64, .i .i64, .i .i64, .b] r) : ∃ s : Rec, r = rR s := by
  match r, h with
  | [a, b, c, d, e], ⟨h1, h2, h3, h4, h5, _⟩ =>
    obtain ⟨x1, rfl, _⟩ := okI h1
    obtain ⟨x2, rfl, _⟩ := okI h2
    obtain ⟨x3, rfl, _⟩ := okI h3
    obtain ⟨x4, rfl, _⟩ := okI h4
    obtain ⟨x5, rfl⟩ := okB h5
    exact ⟨⟨x1, x2, x3, x4, x5⟩, rfl⟩
theorem rows_Rec {rows : List (List Value)} (h : ∀ r ∈ rows, AllL [.i .i64, .i .i64, .i .i64, .i .i64, .b] r) : ∃ l : List Rec, rows = l.map rR := rows_of (fun _ hr => one_Rec hr) h

end Go.Proofs.Ytmakdilmibjpbab
