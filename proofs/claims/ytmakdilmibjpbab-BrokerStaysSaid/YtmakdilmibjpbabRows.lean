/-
  No cell of these rows narrows 'for every input' (looked for: loops, veiled, ifaces, maps, wideKeys, modest, calm, conditions, laid).
  DERIVED. THE GIVEN ROWS OF THIS SEAT. 11 by the template 'for every input the law returns true; each argument reads behind the call as it read before'; 0 by the template 'total and deterministic' (their statements: YtmakdilmibjpbabTotals.lean).
  GIVEN WITH THE SEED: the statements are not yours to turn. If you find one false, say at which input.
  Laid BY PROGRAM, IN A SANDBOX (cutbox-rows.mjs): the forced cells as the released guide's own fill.sh prints them over the translation 3101ba57fbf049fa… (all of the seat's roots in one cut). By AI agents, Wed Nov 11 2026. No macro, syntax, notation, axiom, sorry.
-/
import Derived.Test.YtmakdilmibjpbabChecked
import GoSem.Claim
import GoSem.ClaimJoined
import GoSem.ClaimMapViews
import Derived.JoinedTies
import Derived.KernelRfl
namespace Go.Proofs.Ytmakdilmibjpbab
/- THE CELL 'sum', in the pinned program and in every row, IS THE sha256 OF THE DUMP (.gsa) THAT YtmakdilmibjpbabProg.lean LOADS. Nothing in Lean hashes anything: it is a label: what it is worth is what the hold of that sum in a sandbox is worth. -/
noncomputable def Try.pinned : Pinned := { name := "ytmakdilmibjpbab", sum := "3101ba57fbf049fa1fcdddad0fe07ec02f8cc414f3f784538721ff1bbdc6b01e", checked := Try.checked }
namespace Rows
def none {H : Type} : Left H := { results := [], args := [] }

/-- 'handsellaw.BrokerYes': WHATEVER THE INPUT: true; the input reads as it did. -/
def brokerYesSpec : ChangeSpec := { name := "brokerYes", fn := fun _ => fun
  | [d1, d2, d3] => { results := [.lit (.bool true)], args := [d1, d2, d3] }
  | _ => none }
def brokerYesRow : OpenClaim := { program := "ytmakdilmibjpbab", sum := "3101ba57fbf049fa1fcdddad0fe07ec02f8cc414f3f784538721ff1bbdc6b01e", func := "handsel/handsellaw.BrokerYes", spec := "brokerYes", apart := false }
def BrokerYesSaid : Prop := brokerYesRow.holds Try.pinned (OpenSpec.ofChange brokerYesSpec)

/-- ITS FALSE NEIGHBOUR: 'it returns false'. Refute it at one input. -/
def brokerYesWrong : ChangeSpec := { name := "brokerYes", fn := fun _ => fun
  | [d1, d2, d3] => { results := [.lit (.bool false)], args := [d1, d2, d3] }
  | _ => none }
def BrokerYesWrongFalsely : Prop := brokerYesRow.holds Try.pinned (OpenSpec.ofChange brokerYesWrong)

/-- 'handsellaw.ShopDoes': WHATEVER THE INPUT: true; the input reads as it did. -/
def shopDoesSpec : ChangeSpec := { name := "shopDoes", fn := fun _ => fun
  | [d1, d2, d3, d4] => { results := [.lit (.bool true)], args := [d1, d2, d3, d4] }
  | _ => none }
def shopDoesRow : OpenClaim := { program := "ytmakdilmibjpbab", sum := "3101ba57fbf049fa1fcdddad0fe07ec02f8cc414f3f784538721ff1bbdc6b01e", func := "handsel/handsellaw.ShopDoes", spec := "shopDoes", unfollowed := true, recurses := true, apart := false }
def ShopDoesSaid : Prop := shopDoesRow.holds Try.pinned (OpenSpec.ofChange shopDoesSpec)

/-- ITS FALSE NEIGHBOUR: 'it returns false'. Refute it at one input. -/
def shopDoesWrong : ChangeSpec := { name := "shopDoes", fn := fun _ => fun
  | [d1, d2, d3, d4] => { results := [.lit (.bool false)], args := [d1, d2, d3, d4] }
  | _ => none }
def ShopDoesWrongFalsely : Prop := shopDoesRow.holds Try.pinned (OpenSpec.ofChange shopDoesWrong)

/-- 'handsellaw.ShopSums': WHATEVER THE INPUT: true; the input reads as it did. -/
def shopSumsSpec : ChangeSpec := { name := "shopSums", fn := fun _ => fun
  | [d1, d2, d3] => { results := [.lit (.bool true)], args := [d1, d2, d3] }
  | _ => none }
def shopSumsRow : OpenClaim := { program := "ytmakdilmibjpbab", sum := "3101ba57fbf049fa1fcdddad0fe07ec02f8cc414f3f784538721ff1bbdc6b01e", func := "handsel/handsellaw.ShopSums", spec := "shopSums", unfollowed := true, recurses := true, apart := false }
def ShopSumsSaid : Prop := shopSumsRow.holds Try.pinned (OpenSpec.ofChange shopSumsSpec)

/-- ITS FALSE NEIGHBOUR: 'it returns false'. Refute it at one input. -/
def shopSumsWrong : ChangeSpec := { name := "shopSums", fn := fun _ => fun
  | [d1, d2, d3] => { results := [.lit (.bool false)], args := [d1, d2, d3] }
  | _ => none }
def ShopSumsWrongFalsely : Prop := shopSumsRow.holds Try.pinned (OpenSpec.ofChange shopSumsWrong)

/-- 'handsellaw.ShopOnce': WHATEVER THE INPUT: true; the input reads as it did. -/
def shopOnceSpec : ChangeSpec := { name := "shopOnce", fn := fun _ => fun
  | [d1, d2, d3] => { results := [.lit (.bool true)], args := [d1, d2, d3] }
  | _ => none }
def shopOnceRow : OpenClaim := { program := "ytmakdilmibjpbab", sum := "3101ba57fbf049fa1fcdddad0fe07ec02f8cc414f3f784538721ff1bbdc6b01e", func := "handsel/handsellaw.ShopOnce", spec := "shopOnce", unfollowed := true, recurses := true, apart := false }
def ShopOnceSaid : Prop := shopOnceRow.holds Try.pinned (OpenSpec.ofChange shopOnceSpec)

/-- ITS FALSE NEIGHBOUR: 'it returns false'. Refute it at one input. -/
def shopOnceWrong : ChangeSpec := { name := "shopOnce", fn := fun _ => fun
  | [d1, d2, d3] => { results := [.lit (.bool false)], args := [d1, d2, d3] }
  | _ => none }
def ShopOnceWrongFalsely : Prop := shopOnceRow.holds Try.pinned (OpenSpec.ofChange shopOnceWrong)

/-- 'handsellaw.ShopOthers': WHATEVER THE INPUT: true; the input reads as it did. -/
def shopOthersSpec : ChangeSpec := { name := "shopOthers", fn := fun _ => fun
  | [d1, d2, d3, d4] => { results := [.lit (.bool true)], args := [d1, d2, d3, d4] }
  | _ => none }
def shopOthersRow : OpenClaim := { program := "ytmakdilmibjpbab", sum := "3101ba57fbf049fa1fcdddad0fe07ec02f8cc414f3f784538721ff1bbdc6b01e", func := "handsel/handsellaw.ShopOthers", spec := "shopOthers", unfollowed := true, recurses := true, apart := false }
def ShopOthersSaid : Prop := shopOthersRow.holds Try.pinned (OpenSpec.ofChange shopOthersSpec)

/-- ITS FALSE NEIGHBOUR: 'it returns false'. Refute it at one input. -/
def shopOthersWrong : ChangeSpec := { name := "shopOthers", fn := fun _ => fun
  | [d1, d2, d3, d4] => { results := [.lit (.bool false)], args := [d1, d2, d3, d4] }
  | _ => none }
def ShopOthersWrongFalsely : Prop := shopOthersRow.holds Try.pinned (OpenSpec.ofChange shopOthersWrong)

/-- 'handsellaw.BrokerStays': WHATEVER THE INPUT: true; the input reads as it did. -/
def brokerStaysSpec : ChangeSpec := { name := "brokerStays", fn := fun _ => fun
  | [d] => { results := [.lit (.bool true)], args := [d] }
  | _ => none }
def brokerStaysRow : OpenClaim := { program := "ytmakdilmibjpbab", sum := "3101ba57fbf049fa1fcdddad0fe07ec02f8cc414f3f784538721ff1bbdc6b01e", func := "handsel/handsellaw.BrokerStays", spec := "brokerStays", apart := false }
def BrokerStaysSaid : Prop := brokerStaysRow.holds Try.pinned (OpenSpec.ofChange brokerStaysSpec)

/-- ITS FALSE NEIGHBOUR: 'it returns false'. Refute it at one input. -/
def brokerStaysWrong : ChangeSpec := { name := "brokerStays", fn := fun _ => fun
  | [d] => { results := [.lit (.bool false)], args := [d] }
  | _ => none }
def BrokerStaysWrongFalsely : Prop := brokerStaysRow.holds Try.pinned (OpenSpec.ofChange brokerStaysWrong)

/-- 'handsellaw.BrokerDoes': WHATEVER THE INPUT: true; the input reads as it did. -/
def brokerDoesSpec : ChangeSpec := { name := "brokerDoes", fn := fun _ => fun
  | [d] => { results := [.lit (.bool true)], args := [d] }
  | _ => none }
def brokerDoesRow : OpenClaim := { program := "ytmakdilmibjpbab", sum := "3101ba57fbf049fa1fcdddad0fe07ec02f8cc414f3f784538721ff1bbdc6b01e", func := "handsel/handsellaw.BrokerDoes", spec := "brokerDoes", apart := false }
def BrokerDoesSaid : Prop := brokerDoesRow.holds Try.pinned (OpenSpec.ofChange brokerDoesSpec)

/-- ITS FALSE NEIGHBOUR: 'it returns false'. Refute it at one input. -/
def brokerDoesWrong : ChangeSpec := { name := "brokerDoes", fn := fun _ => fun
  | [d] => { results := [.lit (.bool false)], args := [d] }
  | _ => none }
def BrokerDoesWrongFalsely : Prop := brokerDoesRow.holds Try.pinned (OpenSpec.ofChange brokerDoesWrong)

/-- 'handsellaw.BrokerDue': WHATEVER THE INPUT: true; the input reads as it did. -/
def brokerDueSpec : ChangeSpec := { name := "brokerDue", fn := fun _ => fun
  | [d] => { results := [.lit (.bool true)], args := [d] }
  | _ => none }
def brokerDueRow : OpenClaim := { program := "ytmakdilmibjpbab", sum := "3101ba57fbf049fa1fcdddad0fe07ec02f8cc414f3f784538721ff1bbdc6b01e", func := "handsel/handsellaw.BrokerDue", spec := "brokerDue", apart := false }
def BrokerDueSaid : Prop := brokerDueRow.holds Try.pinned (OpenSpec.ofChange brokerDueSpec)

/-- ITS FALSE NEIGHBOUR: 'it returns false'. Refute it at one input. -/
def brokerDueWrong : ChangeSpec := { name := "brokerDue", fn := fun _ => fun
  | [d] => { results := [.lit (.bool false)], args := [d] }
  | _ => none }
def BrokerDueWrongFalsely : Prop := brokerDueRow.holds Try.pinned (OpenSpec.ofChange brokerDueWrong)

/-- 'handsellaw.KeepDoes': WHATEVER THE INPUT: true; the input reads as it did. -/
def keepDoesSpec : ChangeSpec := { name := "keepDoes", fn := fun _ => fun
  | [d1, d2, d3, d4, d5] => { results := [.lit (.bool true)], args := [d1, d2, d3, d4, d5] }
  | _ => none }
def keepDoesRow : OpenClaim := { program := "ytmakdilmibjpbab", sum := "3101ba57fbf049fa1fcdddad0fe07ec02f8cc414f3f784538721ff1bbdc6b01e", func := "handsel/handsellaw.KeepDoes", spec := "keepDoes", unfollowed := true, recurses := true, apart := false }
def KeepDoesSaid : Prop := keepDoesRow.holds Try.pinned (OpenSpec.ofChange keepDoesSpec)

/-- ITS FALSE NEIGHBOUR: 'it returns false'. Refute it at one input. -/
def keepDoesWrong : ChangeSpec := { name := "keepDoes", fn := fun _ => fun
  | [d1, d2, d3, d4, d5] => { results := [.lit (.bool false)], args := [d1, d2, d3, d4, d5] }
  | _ => none }
def KeepDoesWrongFalsely : Prop := keepDoesRow.holds Try.pinned (OpenSpec.ofChange keepDoesWrong)

/-- 'handsellaw.KeepRefuses': WHATEVER THE INPUT: true; the input reads as it did. -/
def keepRefusesSpec : ChangeSpec := { name := "keepRefuses", fn := fun _ => fun
  | [d1, d2, d3] => { results := [.lit (.bool true)], args := [d1, d2, d3] }
  | _ => none }
def keepRefusesRow : OpenClaim := { program := "ytmakdilmibjpbab", sum := "3101ba57fbf049fa1fcdddad0fe07ec02f8cc414f3f784538721ff1bbdc6b01e", func := "handsel/handsellaw.KeepRefuses", spec := "keepRefuses", unfollowed := true, recurses := true, apart := false }
def KeepRefusesSaid : Prop := keepRefusesRow.holds Try.pinned (OpenSpec.ofChange keepRefusesSpec)

/-- ITS FALSE NEIGHBOUR: 'it returns false'. Refute it at one input. -/
def keepRefusesWrong : ChangeSpec := { name := "keepRefuses", fn := fun _ => fun
  | [d1, d2, d3] => { results := [.lit (.bool false)], args := [d1, d2, d3] }
  | _ => none }
def KeepRefusesWrongFalsely : Prop := keepRefusesRow.holds Try.pinned (OpenSpec.ofChange keepRefusesWrong)

/-- 'handsellaw.KeepAgain': WHATEVER THE INPUT: true; the input reads as it did. -/
def keepAgainSpec : ChangeSpec := { name := "keepAgain", fn := fun _ => fun
  | [d1, d2, d3] => { results := [.lit (.bool true)], args := [d1, d2, d3] }
  | _ => none }
def keepAgainRow : OpenClaim := { program := "ytmakdilmibjpbab", sum := "3101ba57fbf049fa1fcdddad0fe07ec02f8cc414f3f784538721ff1bbdc6b01e", func := "handsel/handsellaw.KeepAgain", spec := "keepAgain", unfollowed := true, recurses := true, apart := false }
def KeepAgainSaid : Prop := keepAgainRow.holds Try.pinned (OpenSpec.ofChange keepAgainSpec)

/-- ITS FALSE NEIGHBOUR: 'it returns false'. Refute it at one input. -/
def keepAgainWrong : ChangeSpec := { name := "keepAgain", fn := fun _ => fun
  | [d1, d2, d3] => { results := [.lit (.bool false)], args := [d1, d2, d3] }
  | _ => none }
def KeepAgainWrongFalsely : Prop := keepAgainRow.holds Try.pinned (OpenSpec.ofChange keepAgainWrong)

/- THE SECOND FORM. 'bulk': how many values and letters a reading holds, each counted each time it is reached (what is shared counts as often as it is met; a slice's spare places count too). A statement '..UptoSaid' is the law's where the arguments, and the package variables that the reading takes, are together of bulk at most 1048576: NARROWER than '..Said'. Prove '..Said' where nothing that the law and all that it calls make is longer than what came in: it says more and counts as full. Else prove '..UptoSaid'. A law counts once. -/
mutual
def uptoBulk {H : Type} : DataW H → Nat
  | .lit (.string bytes) => bytes.length + 1
  | .lit _ => 1
  | .nil => 1
  | .ptr d => uptoBulk d + 1
  | .slice elems spare => uptoBulkAll elems + uptoBulkAll spare + 1
  | .agg parts => uptoBulkAll parts + 1
  | .iface _ d => uptoBulk d + 1
  | .map entries => uptoBulkEntries entries + 1
  | .held _ => 1
def uptoBulkAll {H : Type} : List (DataW H) → Nat
  | [] => 0
  | d :: r => uptoBulk d + uptoBulkAll r
def uptoBulkEntries {H : Type} : List (Lit × DataW H) → Nat
  | [] => 0
  | x :: r => uptoBulkEntry x + uptoBulkEntries r
def uptoBulkEntry {H : Type} : Lit × DataW H → Nat
  | (.string bytes, d) => bytes.length + uptoBulk d + 1
  | (_, d) => uptoBulk d + 1
 end
def uptoSmall : (H : Type) → List (DataW H) → Bool := fun _ ds => decide (uptoBulkAll ds ≤ 1048576)
def OpenSpec.upto (s : _root_.Go.ChangeSpec) : _root_.Go.OpenSpec := { _root_.Go.OpenSpec.ofChange s with cond := some uptoSmall }

/-- 'handsellaw.BrokerYes', WHERE WHAT IT READS IS OF BULK AT MOST 1048576: true; the input reads as it did. -/
def brokerYesUptoRow : OpenClaim := { program := "ytmakdilmibjpbab", sum := "3101ba57fbf049fa1fcdddad0fe07ec02f8cc414f3f784538721ff1bbdc6b01e", func := "handsel/handsellaw.BrokerYes", spec := "brokerYes", apart := false, narrowed := true }
def BrokerYesUptoSaid : Prop := brokerYesUptoRow.holds Try.pinned (OpenSpec.upto brokerYesSpec)

/-- 'handsellaw.ShopDoes', WHERE WHAT IT READS IS OF BULK AT MOST 1048576: true; the input reads as it did. -/
def shopDoesUptoRow : OpenClaim := { program := "ytmakdilmibjpbab", sum := "3101ba57fbf049fa1fcdddad0fe07ec02f8cc414f3f784538721ff1bbdc6b01e", func := "handsel/handsellaw.ShopDoes", spec := "shopDoes", unfollowed := true, recurses := true, apart := false, narrowed := true }
def ShopDoesUptoSaid : Prop := shopDoesUptoRow.holds Try.pinned (OpenSpec.upto shopDoesSpec)

/-- 'handsellaw.ShopSums', WHERE WHAT IT READS IS OF BULK AT MOST 1048576: true; the input reads as it did. -/
def shopSumsUptoRow : OpenClaim := { program := "ytmakdilmibjpbab", sum := "3101ba57fbf049fa1fcdddad0fe07ec02f8cc414f3f784538721ff1bbdc6b01e", func := "handsel/handsellaw.ShopSums", spec := "shopSums", unfollowed := true, recurses := true, apart := false, narrowed := true }
def ShopSumsUptoSaid : Prop := shopSumsUptoRow.holds Try.pinned (OpenSpec.upto shopSumsSpec)

/-- 'handsellaw.ShopOnce', WHERE WHAT IT READS IS OF BULK AT MOST 1048576: true; the input reads as it did. -/
def shopOnceUptoRow : OpenClaim := { program := "ytmakdilmibjpbab", sum := "3101ba57fbf049fa1fcdddad0fe07ec02f8cc414f3f784538721ff1bbdc6b01e", func := "handsel/handsellaw.ShopOnce", spec := "shopOnce", unfollowed := true, recurses := true, apart := false, narrowed := true }
def ShopOnceUptoSaid : Prop := shopOnceUptoRow.holds Try.pinned (OpenSpec.upto shopOnceSpec)

/-- 'handsellaw.ShopOthers', WHERE WHAT IT READS IS OF BULK AT MOST 1048576: true; the input reads as it did. -/
def shopOthersUptoRow : OpenClaim := { program := "ytmakdilmibjpbab", sum := "3101ba57fbf049fa1fcdddad0fe07ec02f8cc414f3f784538721ff1bbdc6b01e", func := "handsel/handsellaw.ShopOthers", spec := "shopOthers", unfollowed := true, recurses := true, apart := false, narrowed := true }
def ShopOthersUptoSaid : Prop := shopOthersUptoRow.holds Try.pinned (OpenSpec.upto shopOthersSpec)

/-- 'handsellaw.BrokerStays', WHERE WHAT IT READS IS OF BULK AT MOST 1048576: true; the input reads as it did. -/
def brokerStaysUptoRow : OpenClaim := { program := "ytmakdilmibjpbab", sum := "3101ba57fbf049fa1fcdddad0fe07ec02f8cc414f3f784538721ff1bbdc6b01e", func := "handsel/handsellaw.BrokerStays", spec := "brokerStays", apart := false, narrowed := true }
def BrokerStaysUptoSaid : Prop := brokerStaysUptoRow.holds Try.pinned (OpenSpec.upto brokerStaysSpec)

/-- 'handsellaw.BrokerDoes', WHERE WHAT IT READS IS OF BULK AT MOST 1048576: true; the input reads as it did. -/
def brokerDoesUptoRow : OpenClaim := { program := "ytmakdilmibjpbab", sum := "3101ba57fbf049fa1fcdddad0fe07ec02f8cc414f3f784538721ff1bbdc6b01e", func := "handsel/handsellaw.BrokerDoes", spec := "brokerDoes", apart := false, narrowed := true }
def BrokerDoesUptoSaid : Prop := brokerDoesUptoRow.holds Try.pinned (OpenSpec.upto brokerDoesSpec)

/-- 'handsellaw.BrokerDue', WHERE WHAT IT READS IS OF BULK AT MOST 1048576: true; the input reads as it did. -/
def brokerDueUptoRow : OpenClaim := { program := "ytmakdilmibjpbab", sum := "3101ba57fbf049fa1fcdddad0fe07ec02f8cc414f3f784538721ff1bbdc6b01e", func := "handsel/handsellaw.BrokerDue", spec := "brokerDue", apart := false, narrowed := true }
def BrokerDueUptoSaid : Prop := brokerDueUptoRow.holds Try.pinned (OpenSpec.upto brokerDueSpec)

/-- 'handsellaw.KeepDoes', WHERE WHAT IT READS IS OF BULK AT MOST 1048576: true; the input reads as it did. -/
def keepDoesUptoRow : OpenClaim := { program := "ytmakdilmibjpbab", sum := "3101ba57fbf049fa1fcdddad0fe07ec02f8cc414f3f784538721ff1bbdc6b01e", func := "handsel/handsellaw.KeepDoes", spec := "keepDoes", unfollowed := true, recurses := true, apart := false, narrowed := true }
def KeepDoesUptoSaid : Prop := keepDoesUptoRow.holds Try.pinned (OpenSpec.upto keepDoesSpec)

/-- 'handsellaw.KeepRefuses', WHERE WHAT IT READS IS OF BULK AT MOST 1048576: true; the input reads as it did. -/
def keepRefusesUptoRow : OpenClaim := { program := "ytmakdilmibjpbab", sum := "3101ba57fbf049fa1fcdddad0fe07ec02f8cc414f3f784538721ff1bbdc6b01e", func := "handsel/handsellaw.KeepRefuses", spec := "keepRefuses", unfollowed := true, recurses := true, apart := false, narrowed := true }
def KeepRefusesUptoSaid : Prop := keepRefusesUptoRow.holds Try.pinned (OpenSpec.upto keepRefusesSpec)

/-- 'handsellaw.KeepAgain', WHERE WHAT IT READS IS OF BULK AT MOST 1048576: true; the input reads as it did. -/
def keepAgainUptoRow : OpenClaim := { program := "ytmakdilmibjpbab", sum := "3101ba57fbf049fa1fcdddad0fe07ec02f8cc414f3f784538721ff1bbdc6b01e", func := "handsel/handsellaw.KeepAgain", spec := "keepAgain", unfollowed := true, recurses := true, apart := false, narrowed := true }
def KeepAgainUptoSaid : Prop := keepAgainUptoRow.holds Try.pinned (OpenSpec.upto keepAgainSpec)

end Rows
end Go.Proofs.Ytmakdilmibjpbab
