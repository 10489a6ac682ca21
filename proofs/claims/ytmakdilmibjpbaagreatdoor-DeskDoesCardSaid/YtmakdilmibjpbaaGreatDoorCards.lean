/-
  DERIVED. GIVEN WITH THE SEED: THE CARDS: each row of YtmakdilmibjpbaaGreatDoorRows.lean that lists a variable, with what it lists TIED to the program's text (the seventh form; the later family's looks); each row that meets fmt, with fmt's text TOLD by the authors' own Lean function (tested against real Go, not proved from fmt's source: count such statements apart). THE CARD IS WHAT COUNTS. Prove the row's statement (the work); the ties are given (YtmakdilmibjpbaaGreatDoorTie.lean); close each card by the builder's one call (the guide's Derived/Test/ToyasCard.lean, 'card_holds'). Laid BY PROGRAM, IN A SANDBOX (cutbox-door.mjs). By AI agents, Wed Nov 11 2026. No macro, syntax, notation, axiom, sorry.
-/
import Derived.Test.YtmakdilmibjpbaaGreatDoorRows
import GoSem.ClaimSeven
namespace Go.Proofs.YtmakdilmibjpbaaGreatDoor
namespace Rows

/-- THE TIED CARD OF 'handsellaw.DeskDoes'. -/
def deskDoesCard : Claim7 := { stood := { row := deskDoesRow, standIns := [], harness := (true, "147ef8c28951e07f40277218194a1f898e9bdb465fbbc089c11a8534c833c61e"), looks := true }, kinds := [], alts := [], laidByText := true, laidKinds := [.data, .data, .data, .data, .sentinel, .sentinel, .pinned], laidTests := true, laidLooks := .later }
def DeskDoesCardSaid : Prop := Claim7.holds Tryz.pinned (.plain (OpenSpec.ofChange deskDoesSpec)) deskDoesCard

/-- THE SECOND FORM's CARD OF 'handsellaw.DeskDoes'. -/
def deskDoesUptoCard : Claim7 := { stood := { row := deskDoesUptoRow, standIns := [], harness := (true, "147ef8c28951e07f40277218194a1f898e9bdb465fbbc089c11a8534c833c61e"), looks := true }, kinds := [], alts := [], laidByText := true, laidKinds := [.data, .data, .data, .data, .sentinel, .sentinel, .pinned], laidTests := true, laidLooks := .later }
def DeskDoesUptoCardSaid : Prop := Claim7.holds Tryz.pinned (.plain (OpenSpec.upto deskDoesSpec)) deskDoesUptoCard
end Rows
end Go.Proofs.YtmakdilmibjpbaaGreatDoor
