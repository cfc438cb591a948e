/-
  DERIVED. GIVEN WITH THE SEED: THE CARDS: each row of YtnpcaplgkmlmoaaGreatDoorRows.lean that lists a variable, with what it lists TIED to the program's text (the seventh form; the later family's looks); each row that meets fmt, with fmt's text TOLD by the authors' own Lean function (tested against real Go, not proved from fmt's source: count such statements apart). THE CARD IS WHAT COUNTS. Prove the row's statement (the work); the ties are given (YtnpcaplgkmlmoaaGreatDoorTie.lean); close each card by the builder's one call (the guide's Derived/Test/ToyasCard.lean, 'card_holds'). Laid BY PROGRAM, IN A SANDBOX (cutbox-door.mjs). By AI agents, Wed Nov 11 2026. No macro, syntax, notation, axiom, sorry.
-/
import Derived.Test.YtnpcaplgkmlmoaaGreatDoorRows
import GoSem.ClaimSeven
namespace Go.Proofs.YtnpcaplgkmlmoaaGreatDoor
namespace Rows

/-- THE TIED CARD OF 'quarrylaw04.HexaWrites'. -/
def hexaWritesCard : Claim7 := { stood := { row := hexaWritesRow, standIns := [], harness := (true, "1a6e78bce78125c21e2a67c07520b39a46c9289d8178ec644671ab81d6d2a282"), looks := false }, kinds := [], alts := [], laidByText := true, laidKinds := [.data, .pinned, .pinned], laidTests := true, laidLooks := .later }
def HexaWritesCardSaid : Prop := Claim7.holds Tryz.pinned (.plain (OpenSpec.ofChange hexaWritesSpec)) hexaWritesCard

/-- THE SECOND FORM's CARD OF 'quarrylaw04.HexaWrites'. -/
def hexaWritesUptoCard : Claim7 := { stood := { row := hexaWritesUptoRow, standIns := [], harness := (true, "1a6e78bce78125c21e2a67c07520b39a46c9289d8178ec644671ab81d6d2a282"), looks := false }, kinds := [], alts := [], laidByText := true, laidKinds := [.data, .pinned, .pinned], laidTests := true, laidLooks := .later }
def HexaWritesUptoCardSaid : Prop := Claim7.holds Tryz.pinned (.plain (OpenSpec.upto hexaWritesSpec)) hexaWritesUptoCard
end Rows
end Go.Proofs.YtnpcaplgkmlmoaaGreatDoor
