/- Steps of brokers that came in. -/
import Derived.Test.YtmakdilmibjpbabFrameN
import Derived.Test.YtmakdilmibjpbabBookW3
namespace Go.Proofs.Ytmakdilmibjpbab
open Go Go.RowKit

abbrev kBk : List Lk2 := [.f (.i .i64), .f (.i .i64), .s [.i .i64, .i .i64], .f (.i .i64), .f (.i .i64), .f (.i .i64), .f (.i .i64), .f (.i .i64), .f .b, .f .b]
theorem one_Bk {M : Amb} {HH : List HP} {r : List Value} (h : RowN M HH kBk r) : ∃ x : BkStep, r = rBk x ∧ Rd M HH x.wv 2 (x.wants.map rW) := by
  match r, h with
  | [a, b, c, d1, d2, d3, d4, d5, d6, y], ⟨h1, h2, ⟨rows, h3, h4⟩, k1, k2, k3, k4, k5, k6, k7, _⟩ =>
    obtain ⟨x1, rfl, _⟩ := okI h1
    obtain ⟨x2, rfl, _⟩ := okI h2
    obtain ⟨l, rfl⟩ := rows_W h4
    obtain ⟨y1, rfl, _⟩ := okI k1
    obtain ⟨y2, rfl, _⟩ := okI k2
    obtain ⟨y3, rfl, _⟩ := okI k3
    obtain ⟨y4, rfl, _⟩ := okI k4
    obtain ⟨y5, rfl, _⟩ := okI k5
    obtain ⟨y6, rfl⟩ := okB k6
    obtain ⟨y7, rfl⟩ := okB k7
    exact ⟨⟨x1, x2, c, l, ⟨y1, y2, y3, y4, y5, y6⟩, y7⟩, rfl, h3⟩
theorem rows_Bk {M : Amb} {HH : List HP} {rows : List (List Value)} (h : ∀ r ∈ rows, RowN M HH kBk r) : ∃ l : List BkStep, rows = l.map rBk ∧ ∀ x ∈ l, Rd M HH x.wv 2 (x.wants.map rW) :=
  rows_ofN (fun _ hr => one_Bk hr) h

end Go.Proofs.Ytmakdilmibjpbab
