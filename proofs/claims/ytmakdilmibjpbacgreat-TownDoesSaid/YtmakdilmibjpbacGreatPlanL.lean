/- What plans ask, in plain Lean. No program in sight. -/
import Derived.Test.YtmakdilmibjpbacGreatWants
namespace Go.Proofs.YtmakdilmibjpbacGreat
open Go Go.RowKit
set_option linter.unusedVariables false
set_option linter.unusedSimpArgs false
theorem goA_len : ∀ (l : List Want) (ws : List Int) (i : Nat), ws.length = 6 → (goA ws l i).1.length = 6
  | [], ws, i, h => h
  | x :: l, ws, i, h => by
    unfold goA
    split
    · rfl
    · split
      · rfl
      · split
        · rfl
        · exact goA_len l _ _ (by simpa using h)
theorem applyL_len {ws : List Int} {l : List Want} (h6 : ws.length = 6) : (applyL ws l).1.length = 6 := by
  unfold applyL; split
  · rfl
  · exact goA_len l ws 0 h6
end Go.Proofs.YtmakdilmibjpbacGreat
