/-
  No cell of these rows narrows 'for every input' (looked for: loops, veiled, ifaces, maps, wideKeys, modest, calm, conditions, laid).
  DERIVED. THE GIVEN ROWS OF THIS SEAT. 11 by the template 'for every input the law returns true; each argument reads behind the call as it read before'; 0 by the template 'total and deterministic' (their statements: YtmakdilmibjpbaaTotals.lean).
  GIVEN WITH THE SEED: the statements are not yours to turn. If you find one false, say at which input.
  Laid BY PROGRAM, IN A SANDBOX (cutbox-rows.mjs): the forced cells as the released guide's own fill.sh prints them over the translation 598ade617513f1d7… (all of the seat's roots in one cut). By AI agents, Wed Nov 11 2026. No macro, syntax, notation, axiom, sorry.
-/
import Derived.Test.YtmakdilmibjpbaaChecked
import GoSem.Claim
import GoSem.ClaimJoined
import GoSem.ClaimMapViews
import Derived.JoinedTies
import Derived.KernelRfl
namespace Go.Proofs.Ytmakdilmibjpbaa
/- THE CELL 'sum', in the pinned program and in every row, IS THE sha256 OF THE DUMP (.gsa) THAT YtmakdilmibjpbaaProg.lean LOADS. Nothing in Lean hashes anything: it is a label: what it is worth is what the hold of that sum in a sandbox is worth. -/
noncomputable def Try.pinned : Pinned := { name := "ytmakdilmibjpbaa", sum := "598ade617513f1d78fd57e200e0993c8ffb32d5e1e3d2a4a102220936b798584", checked := Try.checked }
namespace Rows
def none {H : Type} : Left H := { results := [], args := [] }

/-- 'handsellaw.PostDoes': WHATEVER THE INPUT: true; the input reads as it did. -/
def postDoesSpec : ChangeSpec := { name := "postDoes", fn := fun _ => fun
  | [d] => { results := [.lit (.bool true)], args := [d] }
  | _ => none }
def postDoesRow : OpenClaim := { program := "ytmakdilmibjpbaa", sum := "598ade617513f1d78fd57e200e0993c8ffb32d5e1e3d2a4a102220936b798584", func := "handsel/handsellaw.PostDoes", spec := "postDoes", apart := false }
def PostDoesSaid : Prop := postDoesRow.holds Try.pinned (OpenSpec.ofChange postDoesSpec)

/-- ITS FALSE NEIGHBOUR: 'it returns false'. Refute it at one input. -/
def postDoesWrong : ChangeSpec := { name := "postDoes", fn := fun _ => fun
  | [d] => { results := [.lit (.bool false)], args := [d] }
  | _ => none }
def PostDoesWrongFalsely : Prop := postDoesRow.holds Try.pinned (OpenSpec.ofChange postDoesWrong)

/-- 'handsellaw.PostKeeps': WHATEVER THE INPUT: true; the input reads as it did. -/
def postKeepsSpec : ChangeSpec := { name := "postKeeps", fn := fun _ => fun
  | [d] => { results := [.lit (.bool true)], args := [d] }
  | _ => none }
def postKeepsRow : OpenClaim := { program := "ytmakdilmibjpbaa", sum := "598ade617513f1d78fd57e200e0993c8ffb32d5e1e3d2a4a102220936b798584", func := "handsel/handsellaw.PostKeeps", spec := "postKeeps", apart := false }
def PostKeepsSaid : Prop := postKeepsRow.holds Try.pinned (OpenSpec.ofChange postKeepsSpec)

/-- ITS FALSE NEIGHBOUR: 'it returns false'. Refute it at one input. -/
def postKeepsWrong : ChangeSpec := { name := "postKeeps", fn := fun _ => fun
  | [d] => { results := [.lit (.bool false)], args := [d] }
  | _ => none }
def PostKeepsWrongFalsely : Prop := postKeepsRow.holds Try.pinned (OpenSpec.ofChange postKeepsWrong)

/-- 'handsellaw.PostOrder': WHATEVER THE INPUT: true; the input reads as it did. -/
def postOrderSpec : ChangeSpec := { name := "postOrder", fn := fun _ => fun
  | [d1, d2] => { results := [.lit (.bool true)], args := [d1, d2] }
  | _ => none }
def postOrderRow : OpenClaim := { program := "ytmakdilmibjpbaa", sum := "598ade617513f1d78fd57e200e0993c8ffb32d5e1e3d2a4a102220936b798584", func := "handsel/handsellaw.PostOrder", spec := "postOrder", apart := false }
def PostOrderSaid : Prop := postOrderRow.holds Try.pinned (OpenSpec.ofChange postOrderSpec)

/-- ITS FALSE NEIGHBOUR: 'it returns false'. Refute it at one input. -/
def postOrderWrong : ChangeSpec := { name := "postOrder", fn := fun _ => fun
  | [d1, d2] => { results := [.lit (.bool false)], args := [d1, d2] }
  | _ => none }
def PostOrderWrongFalsely : Prop := postOrderRow.holds Try.pinned (OpenSpec.ofChange postOrderWrong)

/-- 'handsellaw.CountDoes': WHATEVER THE INPUT: true; the input reads as it did. -/
def countDoesSpec : ChangeSpec := { name := "countDoes", fn := fun _ => fun
  | [d1, d2, d3] => { results := [.lit (.bool true)], args := [d1, d2, d3] }
  | _ => none }
def countDoesRow : OpenClaim := { program := "ytmakdilmibjpbaa", sum := "598ade617513f1d78fd57e200e0993c8ffb32d5e1e3d2a4a102220936b798584", func := "handsel/handsellaw.CountDoes", spec := "countDoes", apart := false }
def CountDoesSaid : Prop := countDoesRow.holds Try.pinned (OpenSpec.ofChange countDoesSpec)

/-- ITS FALSE NEIGHBOUR: 'it returns false'. Refute it at one input. -/
def countDoesWrong : ChangeSpec := { name := "countDoes", fn := fun _ => fun
  | [d1, d2, d3] => { results := [.lit (.bool false)], args := [d1, d2, d3] }
  | _ => none }
def CountDoesWrongFalsely : Prop := countDoesRow.holds Try.pinned (OpenSpec.ofChange countDoesWrong)

/-- 'handsellaw.CountBack': WHATEVER THE INPUT: true; the input reads as it did. -/
def countBackSpec : ChangeSpec := { name := "countBack", fn := fun _ => fun
  | [d1, d2] => { results := [.lit (.bool true)], args := [d1, d2] }
  | _ => none }
def countBackRow : OpenClaim := { program := "ytmakdilmibjpbaa", sum := "598ade617513f1d78fd57e200e0993c8ffb32d5e1e3d2a4a102220936b798584", func := "handsel/handsellaw.CountBack", spec := "countBack", apart := false }
def CountBackSaid : Prop := countBackRow.holds Try.pinned (OpenSpec.ofChange countBackSpec)

/-- ITS FALSE NEIGHBOUR: 'it returns false'. Refute it at one input. -/
def countBackWrong : ChangeSpec := { name := "countBack", fn := fun _ => fun
  | [d1, d2] => { results := [.lit (.bool false)], args := [d1, d2] }
  | _ => none }
def CountBackWrongFalsely : Prop := countBackRow.holds Try.pinned (OpenSpec.ofChange countBackWrong)

/-- 'handsellaw.CountNever': WHATEVER THE INPUT: true; the input reads as it did. -/
def countNeverSpec : ChangeSpec := { name := "countNever", fn := fun _ => fun
  | [d1, d2, d3] => { results := [.lit (.bool true)], args := [d1, d2, d3] }
  | _ => none }
def countNeverRow : OpenClaim := { program := "ytmakdilmibjpbaa", sum := "598ade617513f1d78fd57e200e0993c8ffb32d5e1e3d2a4a102220936b798584", func := "handsel/handsellaw.CountNever", spec := "countNever", apart := false }
def CountNeverSaid : Prop := countNeverRow.holds Try.pinned (OpenSpec.ofChange countNeverSpec)

/-- ITS FALSE NEIGHBOUR: 'it returns false'. Refute it at one input. -/
def countNeverWrong : ChangeSpec := { name := "countNever", fn := fun _ => fun
  | [d1, d2, d3] => { results := [.lit (.bool false)], args := [d1, d2, d3] }
  | _ => none }
def CountNeverWrongFalsely : Prop := countNeverRow.holds Try.pinned (OpenSpec.ofChange countNeverWrong)

/-- 'handsellaw.CountOrder': WHATEVER THE INPUT: true; the input reads as it did. -/
def countOrderSpec : ChangeSpec := { name := "countOrder", fn := fun _ => fun
  | [d1, d2, d3] => { results := [.lit (.bool true)], args := [d1, d2, d3] }
  | _ => none }
def countOrderRow : OpenClaim := { program := "ytmakdilmibjpbaa", sum := "598ade617513f1d78fd57e200e0993c8ffb32d5e1e3d2a4a102220936b798584", func := "handsel/handsellaw.CountOrder", spec := "countOrder", apart := false }
def CountOrderSaid : Prop := countOrderRow.holds Try.pinned (OpenSpec.ofChange countOrderSpec)

/-- ITS FALSE NEIGHBOUR: 'it returns false'. Refute it at one input. -/
def countOrderWrong : ChangeSpec := { name := "countOrder", fn := fun _ => fun
  | [d1, d2, d3] => { results := [.lit (.bool false)], args := [d1, d2, d3] }
  | _ => none }
def CountOrderWrongFalsely : Prop := countOrderRow.holds Try.pinned (OpenSpec.ofChange countOrderWrong)

/-- 'handsellaw.PlanDoes': WHATEVER THE INPUT: true; the input reads as it did. -/
def planDoesSpec : ChangeSpec := { name := "planDoes", fn := fun _ => fun
  | [d1, d2, d3] => { results := [.lit (.bool true)], args := [d1, d2, d3] }
  | _ => none }
def planDoesRow : OpenClaim := { program := "ytmakdilmibjpbaa", sum := "598ade617513f1d78fd57e200e0993c8ffb32d5e1e3d2a4a102220936b798584", func := "handsel/handsellaw.PlanDoes", spec := "planDoes", apart := false }
def PlanDoesSaid : Prop := planDoesRow.holds Try.pinned (OpenSpec.ofChange planDoesSpec)

/-- ITS FALSE NEIGHBOUR: 'it returns false'. Refute it at one input. -/
def planDoesWrong : ChangeSpec := { name := "planDoes", fn := fun _ => fun
  | [d1, d2, d3] => { results := [.lit (.bool false)], args := [d1, d2, d3] }
  | _ => none }
def PlanDoesWrongFalsely : Prop := planDoesRow.holds Try.pinned (OpenSpec.ofChange planDoesWrong)

/-- 'handsellaw.PlanOrder': WHATEVER THE INPUT: true; the input reads as it did. -/
def planOrderSpec : ChangeSpec := { name := "planOrder", fn := fun _ => fun
  | [d1, d2] => { results := [.lit (.bool true)], args := [d1, d2] }
  | _ => none }
def planOrderRow : OpenClaim := { program := "ytmakdilmibjpbaa", sum := "598ade617513f1d78fd57e200e0993c8ffb32d5e1e3d2a4a102220936b798584", func := "handsel/handsellaw.PlanOrder", spec := "planOrder", apart := false }
def PlanOrderSaid : Prop := planOrderRow.holds Try.pinned (OpenSpec.ofChange planOrderSpec)

/-- ITS FALSE NEIGHBOUR: 'it returns false'. Refute it at one input. -/
def planOrderWrong : ChangeSpec := { name := "planOrder", fn := fun _ => fun
  | [d1, d2] => { results := [.lit (.bool false)], args := [d1, d2] }
  | _ => none }
def PlanOrderWrongFalsely : Prop := planOrderRow.holds Try.pinned (OpenSpec.ofChange planOrderWrong)

/-- 'handsellaw.PlanApart': WHATEVER THE INPUT: true; the input reads as it did. -/
def planApartSpec : ChangeSpec := { name := "planApart", fn := fun _ => fun
  | [d1, d2] => { results := [.lit (.bool true)], args := [d1, d2] }
  | _ => none }
def planApartRow : OpenClaim := { program := "ytmakdilmibjpbaa", sum := "598ade617513f1d78fd57e200e0993c8ffb32d5e1e3d2a4a102220936b798584", func := "handsel/handsellaw.PlanApart", spec := "planApart", apart := false }
def PlanApartSaid : Prop := planApartRow.holds Try.pinned (OpenSpec.ofChange planApartSpec)

/-- ITS FALSE NEIGHBOUR: 'it returns false'. Refute it at one input. -/
def planApartWrong : ChangeSpec := { name := "planApart", fn := fun _ => fun
  | [d1, d2] => { results := [.lit (.bool false)], args := [d1, d2] }
  | _ => none }
def PlanApartWrongFalsely : Prop := planApartRow.holds Try.pinned (OpenSpec.ofChange planApartWrong)

/-- 'handsellaw.PlanJoins': WHATEVER THE INPUT: true; the input reads as it did. -/
def planJoinsSpec : ChangeSpec := { name := "planJoins", fn := fun _ => fun
  | [d1, d2, d3] => { results := [.lit (.bool true)], args := [d1, d2, d3] }
  | _ => none }
def planJoinsRow : OpenClaim := { program := "ytmakdilmibjpbaa", sum := "598ade617513f1d78fd57e200e0993c8ffb32d5e1e3d2a4a102220936b798584", func := "handsel/handsellaw.PlanJoins", spec := "planJoins", apart := false }
def PlanJoinsSaid : Prop := planJoinsRow.holds Try.pinned (OpenSpec.ofChange planJoinsSpec)

/-- ITS FALSE NEIGHBOUR: 'it returns false'. Refute it at one input. -/
def planJoinsWrong : ChangeSpec := { name := "planJoins", fn := fun _ => fun
  | [d1, d2, d3] => { results := [.lit (.bool false)], args := [d1, d2, d3] }
  | _ => none }
def PlanJoinsWrongFalsely : Prop := planJoinsRow.holds Try.pinned (OpenSpec.ofChange planJoinsWrong)

/- THE SECOND FORM. 'bulk': how many values and letters a reading holds, each counted each time it is reached (what is shared counts as often as it is met; a slice's spare places count too). A statement '..UptoSaid' is the law's where the arguments, and the package variables that the reading takes, are together of bulk at most 1048576: NARROWER than '..Said'. Prove '..Said' where nothing that the law and all that it calls make is longer than what came in: it says more and counts as full. Else prove '..UptoSaid'. A law counts once. -/
mutual
def uptoBulk {H : Type} : DataW H → Nat
  | .lit (.string bytes) => bytes.length + 1
  | .lit _ => 1
  | .nil => 1
  | .ptr d => uptoBulk d + 1
  | .slice elems spare => uptoBulkAll elems + uptoBulkAll spare + 1
  | .agg parts => uptoBulkAll parts + 1
  | .iface _ d => uptoBulk d + 1
  | .map entries => uptoBulkEntries entries + 1
  | .held _ => 1
def uptoBulkAll {H : Type} : List (DataW H) → Nat
  | [] => 0
  | d :: r => uptoBulk d + uptoBulkAll r
def uptoBulkEntries {H : Type} : List (Lit × DataW H) → Nat
  | [] => 0
  | x :: r => uptoBulkEntry x + uptoBulkEntries r
def uptoBulkEntry {H : Type} : Lit × DataW H → Nat
  | (.string bytes, d) => bytes.length + uptoBulk d + 1
  | (_, d) => uptoBulk d + 1
 end
def uptoSmall : (H : Type) → List (DataW H) → Bool := fun _ ds => decide (uptoBulkAll ds ≤ 1048576)
def OpenSpec.upto (s : _root_.Go.ChangeSpec) : _root_.Go.OpenSpec := { _root_.Go.OpenSpec.ofChange s with cond := some uptoSmall }

/-- 'handsellaw.PostDoes', WHERE WHAT IT READS IS OF BULK AT MOST 1048576: true; the input reads as it did. -/
def postDoesUptoRow : OpenClaim := { program := "ytmakdilmibjpbaa", sum := "598ade617513f1d78fd57e200e0993c8ffb32d5e1e3d2a4a102220936b798584", func := "handsel/handsellaw.PostDoes", spec := "postDoes", apart := false, narrowed := true }
def PostDoesUptoSaid : Prop := postDoesUptoRow.holds Try.pinned (OpenSpec.upto postDoesSpec)

/-- 'handsellaw.PostKeeps', WHERE WHAT IT READS IS OF BULK AT MOST 1048576: true; the input reads as it did. -/
def postKeepsUptoRow : OpenClaim := { program := "ytmakdilmibjpbaa", sum := "598ade617513f1d78fd57e200e0993c8ffb32d5e1e3d2a4a102220936b798584", func := "handsel/handsellaw.PostKeeps", spec := "postKeeps", apart := false, narrowed := true }
def PostKeepsUptoSaid : Prop := postKeepsUptoRow.holds Try.pinned (OpenSpec.upto postKeepsSpec)

/-- 'handsellaw.PostOrder', WHERE WHAT IT READS IS OF BULK AT MOST 1048576: true; the input reads as it did. -/
def postOrderUptoRow : OpenClaim := { program := "ytmakdilmibjpbaa", sum := "598ade617513f1d78fd57e200e0993c8ffb32d5e1e3d2a4a102220936b798584", func := "handsel/handsellaw.PostOrder", spec := "postOrder", apart := false, narrowed := true }
def PostOrderUptoSaid : Prop := postOrderUptoRow.holds Try.pinned (OpenSpec.upto postOrderSpec)

/-- 'handsellaw.CountDoes', WHERE WHAT IT READS IS OF BULK AT MOST 1048576: true; the input reads as it did. -/
def countDoesUptoRow : OpenClaim := { program := "ytmakdilmibjpbaa", sum := "598ade617513f1d78fd57e200e0993c8ffb32d5e1e3d2a4a102220936b798584", func := "handsel/handsellaw.CountDoes", spec := "countDoes", apart := false, narrowed := true }
def CountDoesUptoSaid : Prop := countDoesUptoRow.holds Try.pinned (OpenSpec.upto countDoesSpec)

/-- 'handsellaw.CountBack', WHERE WHAT IT READS IS OF BULK AT MOST 1048576: true; the input reads as it did. -/
def countBackUptoRow : OpenClaim := { program := "ytmakdilmibjpbaa", sum := "598ade617513f1d78fd57e200e0993c8ffb32d5e1e3d2a4a102220936b798584", func := "handsel/handsellaw.CountBack", spec := "countBack", apart := false, narrowed := true }
def CountBackUptoSaid : Prop := countBackUptoRow.holds Try.pinned (OpenSpec.upto countBackSpec)

/-- 'handsellaw.CountNever', WHERE WHAT IT READS IS OF BULK AT MOST 1048576: true; the input reads as it did. -/
def countNeverUptoRow : OpenClaim := { program := "ytmakdilmibjpbaa", sum := "598ade617513f1d78fd57e200e0993c8ffb32d5e1e3d2a4a102220936b798584", func := "handsel/handsellaw.CountNever", spec := "countNever", apart := false, narrowed := true }
def CountNeverUptoSaid : Prop := countNeverUptoRow.holds Try.pinned (OpenSpec.upto countNeverSpec)

/-- 'handsellaw.CountOrder', WHERE WHAT IT READS IS OF BULK AT MOST 1048576: true; the input reads as it did. -/
def countOrderUptoRow : OpenClaim := { program := "ytmakdilmibjpbaa", sum := "598ade617513f1d78fd57e200e0993c8ffb32d5e1e3d2a4a102220936b798584", func := "handsel/handsellaw.CountOrder", spec := "countOrder", apart := false, narrowed := true }
def CountOrderUptoSaid : Prop := countOrderUptoRow.holds Try.pinned (OpenSpec.upto countOrderSpec)

/-- 'handsellaw.PlanDoes', WHERE WHAT IT READS IS OF BULK AT MOST 1048576: true; the input reads as it did. -/
def planDoesUptoRow : OpenClaim := { program := "ytmakdilmibjpbaa", sum := "598ade617513f1d78fd57e200e0993c8ffb32d5e1e3d2a4a102220936b798584", func := "handsel/handsellaw.PlanDoes", spec := "planDoes", apart := false, narrowed := true }
def PlanDoesUptoSaid : Prop := planDoesUptoRow.holds Try.pinned (OpenSpec.upto planDoesSpec)

/-- 'handsellaw.PlanOrder', WHERE WHAT IT READS IS OF BULK AT MOST 1048576: true; the input reads as it did. -/
def planOrderUptoRow : OpenClaim := { program := "ytmakdilmibjpbaa", sum := "598ade617513f1d78fd57e200e0993c8ffb32d5e1e3d2a4a102220936b798584", func := "handsel/handsellaw.PlanOrder", spec := "planOrder", apart := false, narrowed := true }
def PlanOrderUptoSaid : Prop := planOrderUptoRow.holds Try.pinned (OpenSpec.upto planOrderSpec)

/-- 'handsellaw.PlanApart', WHERE WHAT IT READS IS OF BULK AT MOST 1048576: true; the input reads as it did. -/
def planApartUptoRow : OpenClaim := { program := "ytmakdilmibjpbaa", sum := "598ade617513f1d78fd57e200e0993c8ffb32d5e1e3d2a4a102220936b798584", func := "handsel/handsellaw.PlanApart", spec := "planApart", apart := false, narrowed := true }
def PlanApartUptoSaid : Prop := planApartUptoRow.holds Try.pinned (OpenSpec.upto planApartSpec)

/-- 'handsellaw.PlanJoins', WHERE WHAT IT READS IS OF BULK AT MOST 1048576: true; the input reads as it did. -/
def planJoinsUptoRow : OpenClaim := { program := "ytmakdilmibjpbaa", sum := "598ade617513f1d78fd57e200e0993c8ffb32d5e1e3d2a4a102220936b798584", func := "handsel/handsellaw.PlanJoins", spec := "planJoins", apart := false, narrowed := true }
def PlanJoinsUptoSaid : Prop := planJoinsUptoRow.holds Try.pinned (OpenSpec.upto planJoinsSpec)

end Rows
end Go.Proofs.Ytmakdilmibjpbaa
