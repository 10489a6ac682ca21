/-
  No cell of these rows narrows 'for every input' (looked for: loops, veiled, ifaces, maps, wideKeys, modest, calm, conditions, laid).
  DERIVED. THE GIVEN ROWS OF THIS SEAT. 11 by the template 'for every input the law returns true; each argument reads behind the call as it read before'; 0 by the template 'total and deterministic' (their statements: YtmakdilmibjpbacTotals.lean).
  GIVEN WITH THE SEED: the statements are not yours to turn. If you find one false, say at which input.
  Laid BY PROGRAM, IN A SANDBOX (cutbox-rows.mjs): the forced cells as the released guide's own fill.sh prints them over the translation 0697255779ffc9bb… (all of the seat's roots in one cut). By AI agents, Wed Nov 11 2026. No macro, syntax, notation, axiom, sorry.
-/
import Derived.Test.YtmakdilmibjpbacChecked
import GoSem.Claim
import GoSem.ClaimJoined
import GoSem.ClaimMapViews
import Derived.JoinedTies
import Derived.KernelRfl
namespace Go.Proofs.Ytmakdilmibjpbac
/- THE CELL 'sum', in the pinned program and in every row, IS THE sha256 OF THE DUMP (.gsa) THAT YtmakdilmibjpbacProg.lean LOADS. Nothing in Lean hashes anything: it is a label: what it is worth is what the hold of that sum in a sandbox is worth. -/
noncomputable def Try.pinned : Pinned := { name := "ytmakdilmibjpbac", sum := "0697255779ffc9bb1d39bba044327c593f05395318adb4ec669b07d2b8b74a86", checked := Try.checked }
namespace Rows
def none {H : Type} : Left H := { results := [], args := [] }

/-- 'handsellaw.ClerkTwice': WHATEVER THE INPUT: true; the input reads as it did. -/
def clerkTwiceSpec : ChangeSpec := { name := "clerkTwice", fn := fun _ => fun
  | [d1, d2, d3] => { results := [.lit (.bool true)], args := [d1, d2, d3] }
  | _ => none }
def clerkTwiceRow : OpenClaim := { program := "ytmakdilmibjpbac", sum := "0697255779ffc9bb1d39bba044327c593f05395318adb4ec669b07d2b8b74a86", func := "handsel/handsellaw.ClerkTwice", spec := "clerkTwice", unfollowed := true, recurses := true, apart := false }
def ClerkTwiceSaid : Prop := clerkTwiceRow.holds Try.pinned (OpenSpec.ofChange clerkTwiceSpec)

/-- ITS FALSE NEIGHBOUR: 'it returns false'. Refute it at one input. -/
def clerkTwiceWrong : ChangeSpec := { name := "clerkTwice", fn := fun _ => fun
  | [d1, d2, d3] => { results := [.lit (.bool false)], args := [d1, d2, d3] }
  | _ => none }
def ClerkTwiceWrongFalsely : Prop := clerkTwiceRow.holds Try.pinned (OpenSpec.ofChange clerkTwiceWrong)

/-- 'handsellaw.ClerkOthers': WHATEVER THE INPUT: true; the input reads as it did. -/
def clerkOthersSpec : ChangeSpec := { name := "clerkOthers", fn := fun _ => fun
  | [d1, d2, d3, d4] => { results := [.lit (.bool true)], args := [d1, d2, d3, d4] }
  | _ => none }
def clerkOthersRow : OpenClaim := { program := "ytmakdilmibjpbac", sum := "0697255779ffc9bb1d39bba044327c593f05395318adb4ec669b07d2b8b74a86", func := "handsel/handsellaw.ClerkOthers", spec := "clerkOthers", unfollowed := true, recurses := true, apart := false }
def ClerkOthersSaid : Prop := clerkOthersRow.holds Try.pinned (OpenSpec.ofChange clerkOthersSpec)

/-- ITS FALSE NEIGHBOUR: 'it returns false'. Refute it at one input. -/
def clerkOthersWrong : ChangeSpec := { name := "clerkOthers", fn := fun _ => fun
  | [d1, d2, d3, d4] => { results := [.lit (.bool false)], args := [d1, d2, d3, d4] }
  | _ => none }
def ClerkOthersWrongFalsely : Prop := clerkOthersRow.holds Try.pinned (OpenSpec.ofChange clerkOthersWrong)

/-- 'handsellaw.ClerkDoes': WHATEVER THE INPUT: true; the input reads as it did. -/
def clerkDoesSpec : ChangeSpec := { name := "clerkDoes", fn := fun _ => fun
  | [d1, d2, d3, d4] => { results := [.lit (.bool true)], args := [d1, d2, d3, d4] }
  | _ => none }
def clerkDoesRow : OpenClaim := { program := "ytmakdilmibjpbac", sum := "0697255779ffc9bb1d39bba044327c593f05395318adb4ec669b07d2b8b74a86", func := "handsel/handsellaw.ClerkDoes", spec := "clerkDoes", unfollowed := true, recurses := true, apart := false }
def ClerkDoesSaid : Prop := clerkDoesRow.holds Try.pinned (OpenSpec.ofChange clerkDoesSpec)

/-- ITS FALSE NEIGHBOUR: 'it returns false'. Refute it at one input. -/
def clerkDoesWrong : ChangeSpec := { name := "clerkDoes", fn := fun _ => fun
  | [d1, d2, d3, d4] => { results := [.lit (.bool false)], args := [d1, d2, d3, d4] }
  | _ => none }
def ClerkDoesWrongFalsely : Prop := clerkDoesRow.holds Try.pinned (OpenSpec.ofChange clerkDoesWrong)

/-- 'handsellaw.TownSum': WHATEVER THE INPUT: true; the input reads as it did. -/
def townSumSpec : ChangeSpec := { name := "townSum", fn := fun _ => fun
  | [d1, d2] => { results := [.lit (.bool true)], args := [d1, d2] }
  | _ => none }
def townSumRow : OpenClaim := { program := "ytmakdilmibjpbac", sum := "0697255779ffc9bb1d39bba044327c593f05395318adb4ec669b07d2b8b74a86", func := "handsel/handsellaw.TownSum", spec := "townSum", unfollowed := true, recurses := true, apart := false }
def TownSumSaid : Prop := townSumRow.holds Try.pinned (OpenSpec.ofChange townSumSpec)

/-- ITS FALSE NEIGHBOUR: 'it returns false'. Refute it at one input. -/
def townSumWrong : ChangeSpec := { name := "townSum", fn := fun _ => fun
  | [d1, d2] => { results := [.lit (.bool false)], args := [d1, d2] }
  | _ => none }
def TownSumWrongFalsely : Prop := townSumRow.holds Try.pinned (OpenSpec.ofChange townSumWrong)

/-- 'handsellaw.TownForgets': WHATEVER THE INPUT: true; the input reads as it did. -/
def townForgetsSpec : ChangeSpec := { name := "townForgets", fn := fun _ => fun
  | [d1, d2] => { results := [.lit (.bool true)], args := [d1, d2] }
  | _ => none }
def townForgetsRow : OpenClaim := { program := "ytmakdilmibjpbac", sum := "0697255779ffc9bb1d39bba044327c593f05395318adb4ec669b07d2b8b74a86", func := "handsel/handsellaw.TownForgets", spec := "townForgets", unfollowed := true, recurses := true, apart := false }
def TownForgetsSaid : Prop := townForgetsRow.holds Try.pinned (OpenSpec.ofChange townForgetsSpec)

/-- ITS FALSE NEIGHBOUR: 'it returns false'. Refute it at one input. -/
def townForgetsWrong : ChangeSpec := { name := "townForgets", fn := fun _ => fun
  | [d1, d2] => { results := [.lit (.bool false)], args := [d1, d2] }
  | _ => none }
def TownForgetsWrongFalsely : Prop := townForgetsRow.holds Try.pinned (OpenSpec.ofChange townForgetsWrong)

/-- 'handsellaw.TownCalm': WHATEVER THE INPUT: true; the input reads as it did. -/
def townCalmSpec : ChangeSpec := { name := "townCalm", fn := fun _ => fun
  | [d1, d2, d3] => { results := [.lit (.bool true)], args := [d1, d2, d3] }
  | _ => none }
def townCalmRow : OpenClaim := { program := "ytmakdilmibjpbac", sum := "0697255779ffc9bb1d39bba044327c593f05395318adb4ec669b07d2b8b74a86", func := "handsel/handsellaw.TownCalm", spec := "townCalm", unfollowed := true, recurses := true, apart := false }
def TownCalmSaid : Prop := townCalmRow.holds Try.pinned (OpenSpec.ofChange townCalmSpec)

/-- ITS FALSE NEIGHBOUR: 'it returns false'. Refute it at one input. -/
def townCalmWrong : ChangeSpec := { name := "townCalm", fn := fun _ => fun
  | [d1, d2, d3] => { results := [.lit (.bool false)], args := [d1, d2, d3] }
  | _ => none }
def TownCalmWrongFalsely : Prop := townCalmRow.holds Try.pinned (OpenSpec.ofChange townCalmWrong)

/-- 'handsellaw.TownOne': WHATEVER THE INPUT: true; the input reads as it did. -/
def townOneSpec : ChangeSpec := { name := "townOne", fn := fun _ => fun
  | [d1, d2, d3] => { results := [.lit (.bool true)], args := [d1, d2, d3] }
  | _ => none }
def townOneRow : OpenClaim := { program := "ytmakdilmibjpbac", sum := "0697255779ffc9bb1d39bba044327c593f05395318adb4ec669b07d2b8b74a86", func := "handsel/handsellaw.TownOne", spec := "townOne", unfollowed := true, recurses := true, apart := false }
def TownOneSaid : Prop := townOneRow.holds Try.pinned (OpenSpec.ofChange townOneSpec)

/-- ITS FALSE NEIGHBOUR: 'it returns false'. Refute it at one input. -/
def townOneWrong : ChangeSpec := { name := "townOne", fn := fun _ => fun
  | [d1, d2, d3] => { results := [.lit (.bool false)], args := [d1, d2, d3] }
  | _ => none }
def TownOneWrongFalsely : Prop := townOneRow.holds Try.pinned (OpenSpec.ofChange townOneWrong)

/-- 'handsellaw.TownQuits': WHATEVER THE INPUT: true; the input reads as it did. -/
def townQuitsSpec : ChangeSpec := { name := "townQuits", fn := fun _ => fun
  | [d1, d2] => { results := [.lit (.bool true)], args := [d1, d2] }
  | _ => none }
def townQuitsRow : OpenClaim := { program := "ytmakdilmibjpbac", sum := "0697255779ffc9bb1d39bba044327c593f05395318adb4ec669b07d2b8b74a86", func := "handsel/handsellaw.TownQuits", spec := "townQuits", unfollowed := true, recurses := true, apart := false }
def TownQuitsSaid : Prop := townQuitsRow.holds Try.pinned (OpenSpec.ofChange townQuitsSpec)

/-- ITS FALSE NEIGHBOUR: 'it returns false'. Refute it at one input. -/
def townQuitsWrong : ChangeSpec := { name := "townQuits", fn := fun _ => fun
  | [d1, d2] => { results := [.lit (.bool false)], args := [d1, d2] }
  | _ => none }
def TownQuitsWrongFalsely : Prop := townQuitsRow.holds Try.pinned (OpenSpec.ofChange townQuitsWrong)

/-- 'handsellaw.TownBroker': WHATEVER THE INPUT: true; the input reads as it did. -/
def townBrokerSpec : ChangeSpec := { name := "townBroker", fn := fun _ => fun
  | [d1, d2] => { results := [.lit (.bool true)], args := [d1, d2] }
  | _ => none }
def townBrokerRow : OpenClaim := { program := "ytmakdilmibjpbac", sum := "0697255779ffc9bb1d39bba044327c593f05395318adb4ec669b07d2b8b74a86", func := "handsel/handsellaw.TownBroker", spec := "townBroker", unfollowed := true, recurses := true, apart := false }
def TownBrokerSaid : Prop := townBrokerRow.holds Try.pinned (OpenSpec.ofChange townBrokerSpec)

/-- ITS FALSE NEIGHBOUR: 'it returns false'. Refute it at one input. -/
def townBrokerWrong : ChangeSpec := { name := "townBroker", fn := fun _ => fun
  | [d1, d2] => { results := [.lit (.bool false)], args := [d1, d2] }
  | _ => none }
def TownBrokerWrongFalsely : Prop := townBrokerRow.holds Try.pinned (OpenSpec.ofChange townBrokerWrong)

/-- 'handsellaw.TownAll': WHATEVER THE INPUT: true; the input reads as it did. -/
def townAllSpec : ChangeSpec := { name := "townAll", fn := fun _ => fun
  | [d1, d2] => { results := [.lit (.bool true)], args := [d1, d2] }
  | _ => none }
def townAllRow : OpenClaim := { program := "ytmakdilmibjpbac", sum := "0697255779ffc9bb1d39bba044327c593f05395318adb4ec669b07d2b8b74a86", func := "handsel/handsellaw.TownAll", spec := "townAll", unfollowed := true, recurses := true, apart := false }
def TownAllSaid : Prop := townAllRow.holds Try.pinned (OpenSpec.ofChange townAllSpec)

/-- ITS FALSE NEIGHBOUR: 'it returns false'. Refute it at one input. -/
def townAllWrong : ChangeSpec := { name := "townAll", fn := fun _ => fun
  | [d1, d2] => { results := [.lit (.bool false)], args := [d1, d2] }
  | _ => none }
def TownAllWrongFalsely : Prop := townAllRow.holds Try.pinned (OpenSpec.ofChange townAllWrong)

/-- 'handsellaw.TownNever': WHATEVER THE INPUT: true; the input reads as it did. -/
def townNeverSpec : ChangeSpec := { name := "townNever", fn := fun _ => fun
  | [d1, d2] => { results := [.lit (.bool true)], args := [d1, d2] }
  | _ => none }
def townNeverRow : OpenClaim := { program := "ytmakdilmibjpbac", sum := "0697255779ffc9bb1d39bba044327c593f05395318adb4ec669b07d2b8b74a86", func := "handsel/handsellaw.TownNever", spec := "townNever", unfollowed := true, recurses := true, apart := false }
def TownNeverSaid : Prop := townNeverRow.holds Try.pinned (OpenSpec.ofChange townNeverSpec)

/-- ITS FALSE NEIGHBOUR: 'it returns false'. Refute it at one input. -/
def townNeverWrong : ChangeSpec := { name := "townNever", fn := fun _ => fun
  | [d1, d2] => { results := [.lit (.bool false)], args := [d1, d2] }
  | _ => none }
def TownNeverWrongFalsely : Prop := townNeverRow.holds Try.pinned (OpenSpec.ofChange townNeverWrong)

/- THE SECOND FORM. 'bulk': how many values and letters a reading holds, each counted each time it is reached (what is shared counts as often as it is met; a slice's spare places count too). A statement '..UptoSaid' is the law's where the arguments, and the package variables that the reading takes, are together of bulk at most 1048576: NARROWER than '..Said'. Prove '..Said' where nothing that the law and all that it calls make is longer than what came in: it says more and counts as full. Else prove '..UptoSaid'. A law counts once. -/
mutual
def uptoBulk {H : Type} : DataW H → Nat
  | .lit (.string bytes) => bytes.length + 1
  | .lit _ => 1
  | .nil => 1
  | .ptr d => uptoBulk d + 1
  | .slice elems spare => uptoBulkAll elems + uptoBulkAll spare + 1
  | .agg parts => uptoBulkAll parts + 1
  | .iface _ d => uptoBulk d + 1
  | .map entries => uptoBulkEntries entries + 1
  | .held _ => 1
def uptoBulkAll {H : Type} : List (DataW H) → Nat
  | [] => 0
  | d :: r => uptoBulk d + uptoBulkAll r
def uptoBulkEntries {H : Type} : List (Lit × DataW H) → Nat
  | [] => 0
  | x :: r => uptoBulkEntry x + uptoBulkEntries r
def uptoBulkEntry {H : Type} : Lit × DataW H → Nat
  | (.string bytes, d) => bytes.length + uptoBulk d + 1
  | (_, d) => uptoBulk d + 1
 end
def uptoSmall : (H : Type) → List (DataW H) → Bool := fun _ ds => decide (uptoBulkAll ds ≤ 1048576)
def OpenSpec.upto (s : _root_.Go.ChangeSpec) : _root_.Go.OpenSpec := { _root_.Go.OpenSpec.ofChange s with cond := some uptoSmall }

/-- 'handsellaw.ClerkTwice', WHERE WHAT IT READS IS OF BULK AT MOST 1048576: true; the input reads as it did. -/
def clerkTwiceUptoRow : OpenClaim := { program := "ytmakdilmibjpbac", sum := "0697255779ffc9bb1d39bba044327c593f05395318adb4ec669b07d2b8b74a86", func := "handsel/handsellaw.ClerkTwice", spec := "clerkTwice", unfollowed := true, recurses := true, apart := false, narrowed := true }
def ClerkTwiceUptoSaid : Prop := clerkTwiceUptoRow.holds Try.pinned (OpenSpec.upto clerkTwiceSpec)

/-- 'handsellaw.ClerkOthers', WHERE WHAT IT READS IS OF BULK AT MOST 1048576: true; the input reads as it did. -/
def clerkOthersUptoRow : OpenClaim := { program := "ytmakdilmibjpbac", sum := "0697255779ffc9bb1d39bba044327c593f05395318adb4ec669b07d2b8b74a86", func := "handsel/handsellaw.ClerkOthers", spec := "clerkOthers", unfollowed := true, recurses := true, apart := false, narrowed := true }
def ClerkOthersUptoSaid : Prop := clerkOthersUptoRow.holds Try.pinned (OpenSpec.upto clerkOthersSpec)

/-- 'handsellaw.ClerkDoes', WHERE WHAT IT READS IS OF BULK AT MOST 1048576: true; the input reads as it did. -/
def clerkDoesUptoRow : OpenClaim := { program := "ytmakdilmibjpbac", sum := "0697255779ffc9bb1d39bba044327c593f05395318adb4ec669b07d2b8b74a86", func := "handsel/handsellaw.ClerkDoes", spec := "clerkDoes", unfollowed := true, recurses := true, apart := false, narrowed := true }
def ClerkDoesUptoSaid : Prop := clerkDoesUptoRow.holds Try.pinned (OpenSpec.upto clerkDoesSpec)

/-- 'handsellaw.TownSum', WHERE WHAT IT READS IS OF BULK AT MOST 1048576: true; the input reads as it did. -/
def townSumUptoRow : OpenClaim := { program := "ytmakdilmibjpbac", sum := "0697255779ffc9bb1d39bba044327c593f05395318adb4ec669b07d2b8b74a86", func := "handsel/handsellaw.TownSum", spec := "townSum", unfollowed := true, recurses := true, apart := false, narrowed := true }
def TownSumUptoSaid : Prop := townSumUptoRow.holds Try.pinned (OpenSpec.upto townSumSpec)

/-- 'handsellaw.TownForgets', WHERE WHAT IT READS IS OF BULK AT MOST 1048576: true; the input reads as it did. -/
def townForgetsUptoRow : OpenClaim := { program := "ytmakdilmibjpbac", sum := "0697255779ffc9bb1d39bba044327c593f05395318adb4ec669b07d2b8b74a86", func := "handsel/handsellaw.TownForgets", spec := "townForgets", unfollowed := true, recurses := true, apart := false, narrowed := true }
def TownForgetsUptoSaid : Prop := townForgetsUptoRow.holds Try.pinned (OpenSpec.upto townForgetsSpec)

/-- 'handsellaw.TownCalm', WHERE WHAT IT READS IS OF BULK AT MOST 1048576: true; the input reads as it did. -/
def townCalmUptoRow : OpenClaim := { program := "ytmakdilmibjpbac", sum := "0697255779ffc9bb1d39bba044327c593f05395318adb4ec669b07d2b8b74a86", func := "handsel/handsellaw.TownCalm", spec := "townCalm", unfollowed := true, recurses := true, apart := false, narrowed := true }
def TownCalmUptoSaid : Prop := townCalmUptoRow.holds Try.pinned (OpenSpec.upto townCalmSpec)

/-- 'handsellaw.TownOne', WHERE WHAT IT READS IS OF BULK AT MOST 1048576: true; the input reads as it did. -/
def townOneUptoRow : OpenClaim := { program := "ytmakdilmibjpbac", sum := "0697255779ffc9bb1d39bba044327c593f05395318adb4ec669b07d2b8b74a86", func := "handsel/handsellaw.TownOne", spec := "townOne", unfollowed := true, recurses := true, apart := false, narrowed := true }
def TownOneUptoSaid : Prop := townOneUptoRow.holds Try.pinned (OpenSpec.upto townOneSpec)

/-- 'handsellaw.TownQuits', WHERE WHAT IT READS IS OF BULK AT MOST 1048576: true; the input reads as it did. -/
def townQuitsUptoRow : OpenClaim := { program := "ytmakdilmibjpbac", sum := "0697255779ffc9bb1d39bba044327c593f05395318adb4ec669b07d2b8b74a86", func := "handsel/handsellaw.TownQuits", spec := "townQuits", unfollowed := true, recurses := true, apart := false, narrowed := true }
def TownQuitsUptoSaid : Prop := townQuitsUptoRow.holds Try.pinned (OpenSpec.upto townQuitsSpec)

/-- 'handsellaw.TownBroker', WHERE WHAT IT READS IS OF BULK AT MOST 1048576: true; the input reads as it did. -/
def townBrokerUptoRow : OpenClaim := { program := "ytmakdilmibjpbac", sum := "0697255779ffc9bb1d39bba044327c593f05395318adb4ec669b07d2b8b74a86", func := "handsel/handsellaw.TownBroker", spec := "townBroker", unfollowed := true, recurses := true, apart := false, narrowed := true }
def TownBrokerUptoSaid : Prop := townBrokerUptoRow.holds Try.pinned (OpenSpec.upto townBrokerSpec)

/-- 'handsellaw.TownAll', WHERE WHAT IT READS IS OF BULK AT MOST 1048576: true; the input reads as it did. -/
def townAllUptoRow : OpenClaim := { program := "ytmakdilmibjpbac", sum := "0697255779ffc9bb1d39bba044327c593f05395318adb4ec669b07d2b8b74a86", func := "handsel/handsellaw.TownAll", spec := "townAll", unfollowed := true, recurses := true, apart := false, narrowed := true }
def TownAllUptoSaid : Prop := townAllUptoRow.holds Try.pinned (OpenSpec.upto townAllSpec)

/-- 'handsellaw.TownNever', WHERE WHAT IT READS IS OF BULK AT MOST 1048576: true; the input reads as it did. -/
def townNeverUptoRow : OpenClaim := { program := "ytmakdilmibjpbac", sum := "0697255779ffc9bb1d39bba044327c593f05395318adb4ec669b07d2b8b74a86", func := "handsel/handsellaw.TownNever", spec := "townNever", unfollowed := true, recurses := true, apart := false, narrowed := true }
def TownNeverUptoSaid : Prop := townNeverUptoRow.holds Try.pinned (OpenSpec.upto townNeverSpec)

end Rows
end Go.Proofs.Ytmakdilmibjpbac
