/-
  DERIVED. GIVEN WITH THE SEED: THE CARDS: each row of YtoabimaidpbkiaaDoorRows.lean that lists a variable, with what it lists TIED to the program's text (the seventh form; the later family's looks); each row that meets fmt, with fmt's text TOLD by the authors' own Lean function (tested against real Go, not proved from fmt's source: count such statements apart). THE CARD IS WHAT COUNTS. Prove the row's statement (the work); the ties are given (YtoabimaidpbkiaaDoorTie.lean); close each card by the builder's one call (the guide's Derived/Test/ToyasCard.lean, 'card_holds'). Laid BY PROGRAM, IN A SANDBOX (cutbox-door.mjs). By AI agents, Wed Nov 11 2026. No macro, syntax, notation, axiom, sorry.
-/
import Derived.Test.YtoabimaidpbkiaaDoorRows
import GoSem.ClaimSeven
namespace Go.Proofs.YtoabimaidpbkiaaDoor
namespace Rows

/-- THE TIED CARD OF 'quarrylaw13.ForkRules'. -/
def forkRulesCard : Claim7 := { stood := { row := forkRulesRow, standIns := [], harness := (true, "0d82c12c4a2490b9a825885df47afc11771aee43b7598ca02f87b87f9958cbc8"), looks := false }, kinds := [], alts := [], laidByText := true, laidKinds := [.listed, .data], laidTests := true, laidLooks := .later }
def ForkRulesCardSaid : Prop := Claim7.holds Tryd.pinned (.plain (OpenSpec.ofChange forkRulesSpec)) forkRulesCard

/-- THE TIED CARD OF 'quarrylaw13.ForkOps'. -/
def forkOpsCard : Claim7 := { stood := { row := forkOpsRow, standIns := [], harness := (true, "0d82c12c4a2490b9a825885df47afc11771aee43b7598ca02f87b87f9958cbc8"), looks := false }, kinds := [], alts := [], laidByText := true, laidKinds := [.listed, .data], laidTests := true, laidLooks := .later }
def ForkOpsCardSaid : Prop := Claim7.holds Tryd.pinned (.plain (OpenSpec.ofChange forkOpsSpec)) forkOpsCard

/-- THE TIED CARD OF 'quarrylaw13.ForkAt'. -/
def forkAtCard : Claim7 := { stood := { row := forkAtRow, standIns := [], harness := (true, "0d82c12c4a2490b9a825885df47afc11771aee43b7598ca02f87b87f9958cbc8"), looks := false }, kinds := [], alts := [], laidByText := true, laidKinds := [.listed, .data], laidTests := true, laidLooks := .later }
def ForkAtCardSaid : Prop := Claim7.holds Tryd.pinned (.plain (OpenSpec.ofChange forkAtSpec)) forkAtCard

/-- THE TIED CARD OF 'quarrylaw13.ForkRises'. -/
def forkRisesCard : Claim7 := { stood := { row := forkRisesRow, standIns := [], harness := (true, "0d82c12c4a2490b9a825885df47afc11771aee43b7598ca02f87b87f9958cbc8"), looks := false }, kinds := [], alts := [], laidByText := true, laidKinds := [.listed, .data], laidTests := true, laidLooks := .later }
def ForkRisesCardSaid : Prop := Claim7.holds Tryd.pinned (.plain (OpenSpec.ofChange forkRisesSpec)) forkRisesCard

/-- THE TIED CARD OF 'quarrylaw13.ForkNames'. -/
def forkNamesCard : Claim7 := { stood := { row := forkNamesRow, standIns := [], harness := (true, "0d82c12c4a2490b9a825885df47afc11771aee43b7598ca02f87b87f9958cbc8"), looks := false }, kinds := [], alts := [], laidByText := true, laidKinds := [.data, .listed, .data, .pinned], laidTests := true, laidLooks := .later }
def ForkNamesCardSaid : Prop := Claim7.holds Tryd.pinned (.plain (OpenSpec.ofChange forkNamesSpec)) forkNamesCard

/-- THE SECOND FORM's CARD OF 'quarrylaw13.ForkRules'. -/
def forkRulesUptoCard : Claim7 := { stood := { row := forkRulesUptoRow, standIns := [], harness := (true, "0d82c12c4a2490b9a825885df47afc11771aee43b7598ca02f87b87f9958cbc8"), looks := false }, kinds := [], alts := [], laidByText := true, laidKinds := [.listed, .data], laidTests := true, laidLooks := .later }
def ForkRulesUptoCardSaid : Prop := Claim7.holds Tryd.pinned (.plain (OpenSpec.upto forkRulesSpec)) forkRulesUptoCard

/-- THE SECOND FORM's CARD OF 'quarrylaw13.ForkOps'. -/
def forkOpsUptoCard : Claim7 := { stood := { row := forkOpsUptoRow, standIns := [], harness := (true, "0d82c12c4a2490b9a825885df47afc11771aee43b7598ca02f87b87f9958cbc8"), looks := false }, kinds := [], alts := [], laidByText := true, laidKinds := [.listed, .data], laidTests := true, laidLooks := .later }
def ForkOpsUptoCardSaid : Prop := Claim7.holds Tryd.pinned (.plain (OpenSpec.upto forkOpsSpec)) forkOpsUptoCard

/-- THE SECOND FORM's CARD OF 'quarrylaw13.ForkAt'. -/
def forkAtUptoCard : Claim7 := { stood := { row := forkAtUptoRow, standIns := [], harness := (true, "0d82c12c4a2490b9a825885df47afc11771aee43b7598ca02f87b87f9958cbc8"), looks := false }, kinds := [], alts := [], laidByText := true, laidKinds := [.listed, .data], laidTests := true, laidLooks := .later }
def ForkAtUptoCardSaid : Prop := Claim7.holds Tryd.pinned (.plain (OpenSpec.upto forkAtSpec)) forkAtUptoCard

/-- THE SECOND FORM's CARD OF 'quarrylaw13.ForkRises'. -/
def forkRisesUptoCard : Claim7 := { stood := { row := forkRisesUptoRow, standIns := [], harness := (true, "0d82c12c4a2490b9a825885df47afc11771aee43b7598ca02f87b87f9958cbc8"), looks := false }, kinds := [], alts := [], laidByText := true, laidKinds := [.listed, .data], laidTests := true, laidLooks := .later }
def ForkRisesUptoCardSaid : Prop := Claim7.holds Tryd.pinned (.plain (OpenSpec.upto forkRisesSpec)) forkRisesUptoCard

/-- THE SECOND FORM's CARD OF 'quarrylaw13.ForkNames'. -/
def forkNamesUptoCard : Claim7 := { stood := { row := forkNamesUptoRow, standIns := [], harness := (true, "0d82c12c4a2490b9a825885df47afc11771aee43b7598ca02f87b87f9958cbc8"), looks := false }, kinds := [], alts := [], laidByText := true, laidKinds := [.data, .listed, .data, .pinned], laidTests := true, laidLooks := .later }
def ForkNamesUptoCardSaid : Prop := Claim7.holds Tryd.pinned (.plain (OpenSpec.upto forkNamesSpec)) forkNamesUptoCard
end Rows
end Go.Proofs.YtoabimaidpbkiaaDoor
