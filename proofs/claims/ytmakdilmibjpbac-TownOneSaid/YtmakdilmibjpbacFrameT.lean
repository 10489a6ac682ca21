/- Steps of towns that came in. -/
import Derived.Test.YtmakdilmibjpbacFrameN
import Derived.Test.YtmakdilmibjpbacTownP
namespace Go.Proofs.Ytmakdilmibjpbac
open Go Go.RowKit

abbrev kTS : List Lk2 := [.f (.i .i64), .f (.i .i64), .s [.i .i64, .i .i64]]
theorem one_TS {M : Amb} {HH : List HP} {r : List Value} (h : RowN M HH kTS r) : ∃ x : TStep, r = rTS x ∧ Rd M HH x.wv 2 (x.wants.map rW) := by
  match r, h with
  | [a, b, c], ⟨h1, h2, ⟨rows, h3, h4⟩, _⟩ =>
    obtain ⟨x1, rfl, _⟩ := okI h1
    obtain ⟨x2, rfl, _⟩ := okI h2
    obtain ⟨l, rfl⟩ := rows_W h4
    exact ⟨⟨x1, x2, c, l⟩, rfl, h3⟩
theorem rows_TS {M : Amb} {HH : List HP} {rows : List (List Value)} (h : ∀ r ∈ rows, RowN M HH kTS r) : ∃ l : List TStep, rows = l.map rTS ∧ ∀ x ∈ l, Rd M HH x.wv 2 (x.wants.map rW) :=
  rows_ofN (fun _ hr => one_TS hr) h

end Go.Proofs.Ytmakdilmibjpbac
