/-
  DERIVED. GIVEN WITH THE SEED: THE CARDS: each row of YtebgcnnhokclaaaGreatDoorRows.lean that lists a variable, with what it lists TIED to the program's text (the seventh form; the later family's looks); each row that meets fmt, with fmt's text TOLD by the authors' own Lean function (tested against real Go, not proved from fmt's source: count such statements apart). THE CARD IS WHAT COUNTS. Prove the row's statement (the work); the ties are given (YtebgcnnhokclaaaGreatDoorTie.lean); close each card by the builder's one call (the guide's Derived/Test/ToyasCard.lean, 'card_holds'). Laid BY PROGRAM, IN A SANDBOX (cutbox-door.mjs). By AI agents, Wed Nov 11 2026. No macro, syntax, notation, axiom, sorry.
-/
import Derived.Test.YtebgcnnhokclaaaGreatDoorRows
import GoSem.ClaimSeven
namespace Go.Proofs.YtebgcnnhokclaaaGreatDoor
namespace Rows

/-- THE TIED CARD OF 'circalaw35.QualitiesMarked'. -/
def qualitiesMarkedCard : Claim7 := { stood := { row := qualitiesMarkedRow, standIns := [], harness := (true, "9a8577ebd42d44934c72f1ccbabcda564cfb120db2cc88e8b2ffdf18869e215e"), looks := true }, kinds := [], alts := [], laidByText := true, laidKinds := [.data, .data, .data, .data, .sentinel, .sentinel, .data, .data, .data, .pinned], laidTests := true, laidLooks := .later }
def QualitiesMarkedCardSaid : Prop := Claim7.holds Tryz.pinned (.plain (OpenSpec.ofChange qualitiesMarkedSpec)) qualitiesMarkedCard

/-- THE TIED CARD OF 'circalaw35.QualitiesKnown'. -/
def qualitiesKnownCard : Claim7 := { stood := { row := qualitiesKnownRow, standIns := [], harness := (true, "9a8577ebd42d44934c72f1ccbabcda564cfb120db2cc88e8b2ffdf18869e215e"), looks := true }, kinds := [], alts := [], laidByText := true, laidKinds := [.data, .data, .data, .data, .sentinel, .sentinel, .data, .data, .data, .pinned], laidTests := true, laidLooks := .later }
def QualitiesKnownCardSaid : Prop := Claim7.holds Tryz.pinned (.plain (OpenSpec.ofChange qualitiesKnownSpec)) qualitiesKnownCard

/-- THE TIED CARD OF 'circalaw35.QualitiesErrors'. -/
def qualitiesErrorsCard : Claim7 := { stood := { row := qualitiesErrorsRow, standIns := [], harness := (true, "9a8577ebd42d44934c72f1ccbabcda564cfb120db2cc88e8b2ffdf18869e215e"), looks := true }, kinds := [], alts := [], laidByText := true, laidKinds := [.data, .data, .data, .data, .sentinel, .sentinel, .data, .data, .data, .pinned], laidTests := true, laidLooks := .later }
def QualitiesErrorsCardSaid : Prop := Claim7.holds Tryz.pinned (.plain (OpenSpec.ofChange qualitiesErrorsSpec)) qualitiesErrorsCard

/-- THE SECOND FORM's CARD OF 'circalaw35.QualitiesMarked'. -/
def qualitiesMarkedUptoCard : Claim7 := { stood := { row := qualitiesMarkedUptoRow, standIns := [], harness := (true, "9a8577ebd42d44934c72f1ccbabcda564cfb120db2cc88e8b2ffdf18869e215e"), looks := true }, kinds := [], alts := [], laidByText := true, laidKinds := [.data, .data, .data, .data, .sentinel, .sentinel, .data, .data, .data, .pinned], laidTests := true, laidLooks := .later }
def QualitiesMarkedUptoCardSaid : Prop := Claim7.holds Tryz.pinned (.plain (OpenSpec.upto qualitiesMarkedSpec)) qualitiesMarkedUptoCard

/-- THE SECOND FORM's CARD OF 'circalaw35.QualitiesKnown'. -/
def qualitiesKnownUptoCard : Claim7 := { stood := { row := qualitiesKnownUptoRow, standIns := [], harness := (true, "9a8577ebd42d44934c72f1ccbabcda564cfb120db2cc88e8b2ffdf18869e215e"), looks := true }, kinds := [], alts := [], laidByText := true, laidKinds := [.data, .data, .data, .data, .sentinel, .sentinel, .data, .data, .data, .pinned], laidTests := true, laidLooks := .later }
def QualitiesKnownUptoCardSaid : Prop := Claim7.holds Tryz.pinned (.plain (OpenSpec.upto qualitiesKnownSpec)) qualitiesKnownUptoCard

/-- THE SECOND FORM's CARD OF 'circalaw35.QualitiesErrors'. -/
def qualitiesErrorsUptoCard : Claim7 := { stood := { row := qualitiesErrorsUptoRow, standIns := [], harness := (true, "9a8577ebd42d44934c72f1ccbabcda564cfb120db2cc88e8b2ffdf18869e215e"), looks := true }, kinds := [], alts := [], laidByText := true, laidKinds := [.data, .data, .data, .data, .sentinel, .sentinel, .data, .data, .data, .pinned], laidTests := true, laidLooks := .later }
def QualitiesErrorsUptoCardSaid : Prop := Claim7.holds Tryz.pinned (.plain (OpenSpec.upto qualitiesErrorsSpec)) qualitiesErrorsUptoCard
end Rows
end Go.Proofs.YtebgcnnhokclaaaGreatDoor
