/- What the statements of a clerk ask, in plain Lean. No program in sight. -/
import Derived.Test.YtmakdilmibjpbacGreatAns
namespace Go.Proofs.YtmakdilmibjpbacGreat
open Go Go.RowKit
set_option linter.unusedVariables false
set_option linter.unusedSimpArgs false
end Go.Proofs.YtmakdilmibjpbacGreat
