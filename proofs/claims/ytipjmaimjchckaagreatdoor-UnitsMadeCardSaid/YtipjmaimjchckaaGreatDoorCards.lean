/-
  DERIVED. GIVEN WITH THE SEED: THE CARDS: each row of YtipjmaimjchckaaGreatDoorRows.lean that lists a variable, with what it lists TIED to the program's text (the seventh form; the later family's looks); each row that meets fmt, with fmt's text TOLD by the authors' own Lean function (tested against real Go, not proved from fmt's source: count such statements apart). THE CARD IS WHAT COUNTS. Prove the row's statement (the work); the ties are given (YtipjmaimjchckaaGreatDoorTie.lean); close each card by the builder's one call (the guide's Derived/Test/ToyasCard.lean, 'card_holds'). Laid BY PROGRAM, IN A SANDBOX (cutbox-door.mjs). By AI agents, Wed Nov 11 2026. No macro, syntax, notation, axiom, sorry.
-/
import Derived.Test.YtipjmaimjchckaaGreatDoorRows
import GoSem.ClaimSeven
namespace Go.Proofs.YtipjmaimjchckaaGreatDoor
namespace Rows

/-- THE TIED CARD OF 'circalaw23.UnitsHolding'. -/
def unitsHoldingCard : Claim7 := { stood := { row := unitsHoldingRow, standIns := [], harness := (true, "7bdae613b9191555e8bd846065e1d8ff0b8b5107a6e326ce5ba649893776a7a7"), looks := true }, kinds := [], alts := [], laidByText := true, laidKinds := [.data, .data, .data, .data, .sentinel, .sentinel, .data, .data, .data, .pinned], laidTests := true, laidLooks := .later }
def UnitsHoldingCardSaid : Prop := Claim7.holds Tryz.pinned (.plain (OpenSpec.ofChange unitsHoldingSpec)) unitsHoldingCard

/-- THE TIED CARD OF 'circalaw23.UnitsArg'. -/
def unitsArgCard : Claim7 := { stood := { row := unitsArgRow, standIns := [], harness := (true, "7bdae613b9191555e8bd846065e1d8ff0b8b5107a6e326ce5ba649893776a7a7"), looks := true }, kinds := [], alts := [], laidByText := true, laidKinds := [.data, .data, .data, .data, .sentinel, .sentinel, .data, .data, .data, .pinned], laidTests := true, laidLooks := .later }
def UnitsArgCardSaid : Prop := Claim7.holds Tryz.pinned (.plain (OpenSpec.ofChange unitsArgSpec)) unitsArgCard

/-- THE TIED CARD OF 'circalaw23.UnitsKnown'. -/
def unitsKnownCard : Claim7 := { stood := { row := unitsKnownRow, standIns := [], harness := (true, "7bdae613b9191555e8bd846065e1d8ff0b8b5107a6e326ce5ba649893776a7a7"), looks := true }, kinds := [], alts := [], laidByText := true, laidKinds := [.data, .data, .data, .data, .sentinel, .sentinel, .data, .data, .data, .pinned], laidTests := true, laidLooks := .later }
def UnitsKnownCardSaid : Prop := Claim7.holds Tryz.pinned (.plain (OpenSpec.ofChange unitsKnownSpec)) unitsKnownCard

/-- THE TIED CARD OF 'circalaw23.UnitsOf'. -/
def unitsOfCard : Claim7 := { stood := { row := unitsOfRow, standIns := [], harness := (true, "7bdae613b9191555e8bd846065e1d8ff0b8b5107a6e326ce5ba649893776a7a7"), looks := true }, kinds := [], alts := [], laidByText := true, laidKinds := [.data, .data, .data, .data, .sentinel, .sentinel, .data, .data, .data, .pinned], laidTests := true, laidLooks := .later }
def UnitsOfCardSaid : Prop := Claim7.holds Tryz.pinned (.plain (OpenSpec.ofChange unitsOfSpec)) unitsOfCard

/-- THE TIED CARD OF 'circalaw23.UnitsMade'. -/
def unitsMadeCard : Claim7 := { stood := { row := unitsMadeRow, standIns := [], harness := (true, "7bdae613b9191555e8bd846065e1d8ff0b8b5107a6e326ce5ba649893776a7a7"), looks := true }, kinds := [], alts := [], laidByText := true, laidKinds := [.data, .data, .data, .data, .sentinel, .sentinel, .data, .data, .data, .pinned], laidTests := true, laidLooks := .later }
def UnitsMadeCardSaid : Prop := Claim7.holds Tryz.pinned (.plain (OpenSpec.ofChange unitsMadeSpec)) unitsMadeCard

/-- THE SECOND FORM's CARD OF 'circalaw23.UnitsHolding'. -/
def unitsHoldingUptoCard : Claim7 := { stood := { row := unitsHoldingUptoRow, standIns := [], harness := (true, "7bdae613b9191555e8bd846065e1d8ff0b8b5107a6e326ce5ba649893776a7a7"), looks := true }, kinds := [], alts := [], laidByText := true, laidKinds := [.data, .data, .data, .data, .sentinel, .sentinel, .data, .data, .data, .pinned], laidTests := true, laidLooks := .later }
def UnitsHoldingUptoCardSaid : Prop := Claim7.holds Tryz.pinned (.plain (OpenSpec.upto unitsHoldingSpec)) unitsHoldingUptoCard

/-- THE SECOND FORM's CARD OF 'circalaw23.UnitsArg'. -/
def unitsArgUptoCard : Claim7 := { stood := { row := unitsArgUptoRow, standIns := [], harness := (true, "7bdae613b9191555e8bd846065e1d8ff0b8b5107a6e326ce5ba649893776a7a7"), looks := true }, kinds := [], alts := [], laidByText := true, laidKinds := [.data, .data, .data, .data, .sentinel, .sentinel, .data, .data, .data, .pinned], laidTests := true, laidLooks := .later }
def UnitsArgUptoCardSaid : Prop := Claim7.holds Tryz.pinned (.plain (OpenSpec.upto unitsArgSpec)) unitsArgUptoCard

/-- THE SECOND FORM's CARD OF 'circalaw23.UnitsKnown'. -/
def unitsKnownUptoCard : Claim7 := { stood := { row := unitsKnownUptoRow, standIns := [], harness := (true, "7bdae613b9191555e8bd846065e1d8ff0b8b5107a6e326ce5ba649893776a7a7"), looks := true }, kinds := [], alts := [], laidByText := true, laidKinds := [.data, .data, .data, .data, .sentinel, .sentinel, .data, .data, .data, .pinned], laidTests := true, laidLooks := .later }
def UnitsKnownUptoCardSaid : Prop := Claim7.holds Tryz.pinned (.plain (OpenSpec.upto unitsKnownSpec)) unitsKnownUptoCard

/-- THE SECOND FORM's CARD OF 'circalaw23.UnitsOf'. -/
def unitsOfUptoCard : Claim7 := { stood := { row := unitsOfUptoRow, standIns := [], harness := (true, "7bdae613b9191555e8bd846065e1d8ff0b8b5107a6e326ce5ba649893776a7a7"), looks := true }, kinds := [], alts := [], laidByText := true, laidKinds := [.data, .data, .data, .data, .sentinel, .sentinel, .data, .data, .data, .pinned], laidTests := true, laidLooks := .later }
def UnitsOfUptoCardSaid : Prop := Claim7.holds Tryz.pinned (.plain (OpenSpec.upto unitsOfSpec)) unitsOfUptoCard

/-- THE SECOND FORM's CARD OF 'circalaw23.UnitsMade'. -/
def unitsMadeUptoCard : Claim7 := { stood := { row := unitsMadeUptoRow, standIns := [], harness := (true, "7bdae613b9191555e8bd846065e1d8ff0b8b5107a6e326ce5ba649893776a7a7"), looks := true }, kinds := [], alts := [], laidByText := true, laidKinds := [.data, .data, .data, .data, .sentinel, .sentinel, .data, .data, .data, .pinned], laidTests := true, laidLooks := .later }
def UnitsMadeUptoCardSaid : Prop := Claim7.holds Tryz.pinned (.plain (OpenSpec.upto unitsMadeSpec)) unitsMadeUptoCard
end Rows
end Go.Proofs.YtipjmaimjchckaaGreatDoor
