/- Mail that came in. -/
import Derived.Test.YtmakdilmibjpbacFrameW
import Derived.Test.YtmakdilmibjpbacMails
namespace Go.Proofs.Ytmakdilmibjpbac
open Go Go.RowKit

abbrev kM : List Lk := [.i .i64, .i .i64, .i .i64, .i .i64, .i .i64, .b]
theorem one_M {r : List Value} (h : AllL kM r) : ∃ s, r = rM s := by
  match r, h with
  | [a, b, c, d, e, f], ⟨h1, h2, h3, h4, h5, h6, _⟩ =>
    obtain ⟨x1, rfl, _⟩ := okI h1
    obtain ⟨x2, rfl, _⟩ := okI h2
    obtain ⟨x3, rfl, _⟩ := okI h3
    obtain ⟨x4, rfl, _⟩ := okI h4
    obtain ⟨x5, rfl, _⟩ := okI h5
    obtain ⟨x6, rfl⟩ := okB h6
    exact ⟨⟨x1, x2, x3, x4, x5, x6⟩, rfl⟩
theorem rows_M {rows : List (List Value)} (h : ∀ r ∈ rows, AllL kM r) : ∃ l : List Mail, rows = l.map rM := rows_of (fun _ hr => one_M hr) h

end Go.Proofs.Ytmakdilmibjpbac
