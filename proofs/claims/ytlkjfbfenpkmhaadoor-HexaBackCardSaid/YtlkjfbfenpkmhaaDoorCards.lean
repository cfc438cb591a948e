/-
  DERIVED. GIVEN WITH THE SEED: THE CARDS: each row of YtlkjfbfenpkmhaaDoorRows.lean that lists a variable, with what it lists TIED to the program's text (the seventh form; the later family's looks); each row that meets fmt, with fmt's text TOLD by the authors' own Lean function (tested against real Go, not proved from fmt's source: count such statements apart). THE CARD IS WHAT COUNTS. Prove the row's statement (the work); the ties are given (YtlkjfbfenpkmhaaDoorTie.lean); close each card by the builder's one call (the guide's Derived/Test/ToyasCard.lean, 'card_holds'). Laid BY PROGRAM, IN A SANDBOX (cutbox-door.mjs). By AI agents, Wed Nov 11 2026. No macro, syntax, notation, axiom, sorry.
-/
import Derived.Test.YtlkjfbfenpkmhaaDoorRows
import GoSem.ClaimSeven
namespace Go.Proofs.YtlkjfbfenpkmhaaDoor
namespace Rows

/-- THE TIED CARD OF 'quarrylaw04.HexaRunes'. -/
def hexaRunesCard : Claim7 := { stood := { row := hexaRunesRow, standIns := [], harness := (true, "dcf4ec6a0bff5ca3b9fa5a5ca4aca54775c707299c8aae945d3356e136726a5b"), looks := false }, kinds := [], alts := [], laidByText := true, laidKinds := [.data, .pinned, .pinned], laidTests := true, laidLooks := .later }
def HexaRunesCardSaid : Prop := Claim7.holds Tryd.pinned (.plain (OpenSpec.ofChange hexaRunesSpec)) hexaRunesCard

/-- THE TIED CARD OF 'quarrylaw04.HexaOwn'. -/
def hexaOwnCard : Claim7 := { stood := { row := hexaOwnRow, standIns := [], harness := (true, "dcf4ec6a0bff5ca3b9fa5a5ca4aca54775c707299c8aae945d3356e136726a5b"), looks := false }, kinds := [], alts := [], laidByText := true, laidKinds := [.data, .pinned, .pinned], laidTests := true, laidLooks := .later }
def HexaOwnCardSaid : Prop := Claim7.holds Tryd.pinned (.plain (OpenSpec.ofChange hexaOwnSpec)) hexaOwnCard

/-- THE TIED CARD OF 'quarrylaw04.HexaReads'. -/
def hexaReadsCard : Claim7 := { stood := { row := hexaReadsRow, standIns := [], harness := (true, "dcf4ec6a0bff5ca3b9fa5a5ca4aca54775c707299c8aae945d3356e136726a5b"), looks := false }, kinds := [], alts := [], laidByText := true, laidKinds := [.data, .pinned, .pinned], laidTests := true, laidLooks := .later }
def HexaReadsCardSaid : Prop := Claim7.holds Tryd.pinned (.plain (OpenSpec.ofChange hexaReadsSpec)) hexaReadsCard

/-- THE TIED CARD OF 'quarrylaw04.HexaFields'. -/
def hexaFieldsCard : Claim7 := { stood := { row := hexaFieldsRow, standIns := [], harness := (true, "dcf4ec6a0bff5ca3b9fa5a5ca4aca54775c707299c8aae945d3356e136726a5b"), looks := false }, kinds := [], alts := [], laidByText := true, laidKinds := [.data, .pinned, .pinned], laidTests := true, laidLooks := .later }
def HexaFieldsCardSaid : Prop := Claim7.holds Tryd.pinned (.plain (OpenSpec.ofChange hexaFieldsSpec)) hexaFieldsCard

/-- THE TIED CARD OF 'quarrylaw04.HexaBack'. -/
def hexaBackCard : Claim7 := { stood := { row := hexaBackRow, standIns := [], harness := (true, "dcf4ec6a0bff5ca3b9fa5a5ca4aca54775c707299c8aae945d3356e136726a5b"), looks := false }, kinds := [], alts := [], laidByText := true, laidKinds := [.data, .pinned, .pinned], laidTests := true, laidLooks := .later }
def HexaBackCardSaid : Prop := Claim7.holds Tryd.pinned (.plain (OpenSpec.ofChange hexaBackSpec)) hexaBackCard

/-- THE SECOND FORM's CARD OF 'quarrylaw04.HexaRunes'. -/
def hexaRunesUptoCard : Claim7 := { stood := { row := hexaRunesUptoRow, standIns := [], harness := (true, "dcf4ec6a0bff5ca3b9fa5a5ca4aca54775c707299c8aae945d3356e136726a5b"), looks := false }, kinds := [], alts := [], laidByText := true, laidKinds := [.data, .pinned, .pinned], laidTests := true, laidLooks := .later }
def HexaRunesUptoCardSaid : Prop := Claim7.holds Tryd.pinned (.plain (OpenSpec.upto hexaRunesSpec)) hexaRunesUptoCard

/-- THE SECOND FORM's CARD OF 'quarrylaw04.HexaOwn'. -/
def hexaOwnUptoCard : Claim7 := { stood := { row := hexaOwnUptoRow, standIns := [], harness := (true, "dcf4ec6a0bff5ca3b9fa5a5ca4aca54775c707299c8aae945d3356e136726a5b"), looks := false }, kinds := [], alts := [], laidByText := true, laidKinds := [.data, .pinned, .pinned], laidTests := true, laidLooks := .later }
def HexaOwnUptoCardSaid : Prop := Claim7.holds Tryd.pinned (.plain (OpenSpec.upto hexaOwnSpec)) hexaOwnUptoCard

/-- THE SECOND FORM's CARD OF 'quarrylaw04.HexaReads'. -/
def hexaReadsUptoCard : Claim7 := { stood := { row := hexaReadsUptoRow, standIns := [], harness := (true, "dcf4ec6a0bff5ca3b9fa5a5ca4aca54775c707299c8aae945d3356e136726a5b"), looks := false }, kinds := [], alts := [], laidByText := true, laidKinds := [.data, .pinned, .pinned], laidTests := true, laidLooks := .later }
def HexaReadsUptoCardSaid : Prop := Claim7.holds Tryd.pinned (.plain (OpenSpec.upto hexaReadsSpec)) hexaReadsUptoCard

/-- THE SECOND FORM's CARD OF 'quarrylaw04.HexaFields'. -/
def hexaFieldsUptoCard : Claim7 := { stood := { row := hexaFieldsUptoRow, standIns := [], harness := (true, "dcf4ec6a0bff5ca3b9fa5a5ca4aca54775c707299c8aae945d3356e136726a5b"), looks := false }, kinds := [], alts := [], laidByText := true, laidKinds := [.data, .pinned, .pinned], laidTests := true, laidLooks := .later }
def HexaFieldsUptoCardSaid : Prop := Claim7.holds Tryd.pinned (.plain (OpenSpec.upto hexaFieldsSpec)) hexaFieldsUptoCard

/-- THE SECOND FORM's CARD OF 'quarrylaw04.HexaBack'. -/
def hexaBackUptoCard : Claim7 := { stood := { row := hexaBackUptoRow, standIns := [], harness := (true, "dcf4ec6a0bff5ca3b9fa5a5ca4aca54775c707299c8aae945d3356e136726a5b"), looks := false }, kinds := [], alts := [], laidByText := true, laidKinds := [.data, .pinned, .pinned], laidTests := true, laidLooks := .later }
def HexaBackUptoCardSaid : Prop := Claim7.holds Tryd.pinned (.plain (OpenSpec.upto hexaBackSpec)) hexaBackUptoCard
end Rows
end Go.Proofs.YtlkjfbfenpkmhaaDoor
