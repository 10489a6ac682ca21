/- The walks of BoothN: written by a program of ours (gen.py) over the engine. -/
import Derived.Test.YtmakdilmibjpbacGreatPlain
import Derived.Test.YtmakdilmibjpbacGreatFacts
import Derived.Test.YtmakdilmibjpbacGreatBoothW
namespace Go.Proofs.YtmakdilmibjpbacGreat
open Go Go.RowKit
set_option linter.unusedVariables false
set_option linter.unusedSimpArgs false
set_option maxRecDepth 20000

theorem booth_New_none (M : Amb) (no : Int) (ws : List Int) (h6 : ws.length = 6) (h : newS no ws = none) : FnC Tryz.prog M 61 [.int .i64 no, .agg (ws.map vI).toArray] (.pointer Option.none) [] [] := fun R w ho =>
  (booth_New M no ws h6 R w ho).mono fun _ _ ⟨v, H', e, ⟨x, h1, h2⟩, ho'⟩ => ⟨v, H', e, ⟨by rw [h1, h]; rfl, by rw [h2, h]; rfl⟩, ho'⟩
theorem booth_New_some (M : Amb) (no : Int) (ws : List Int) (h6 : ws.length = 6) {s : ShopS} (h : newS no ws = some s) : FnE (α := Nat) Tryz.prog M 61 [.int .i64 no, .agg (ws.map vI).toArray] [] (fun x => ptr x) (fun x => [boothP x s]) := fun R w ho =>
  (booth_New M no ws h6 R w ho).mono fun _ _ ⟨v, H', e, ⟨x, h1, h2⟩, ho'⟩ => ⟨v, H', e, ⟨x, by rw [h1, h]; rfl, by rw [h2, h]; rfl⟩, ho'⟩

end Go.Proofs.YtmakdilmibjpbacGreat
