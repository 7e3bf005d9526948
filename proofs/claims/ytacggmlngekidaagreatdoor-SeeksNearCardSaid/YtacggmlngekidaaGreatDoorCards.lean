/-
  DERIVED. GIVEN WITH THE SEED: THE CARDS: each row of YtacggmlngekidaaGreatDoorRows.lean that lists a variable, with what it lists TIED to the program's text (the seventh form; the later family's looks); each row that meets fmt, with fmt's text TOLD by the authors' own Lean function (tested against real Go, not proved from fmt's source: count such statements apart). THE CARD IS WHAT COUNTS. Prove the row's statement (the work); the ties are given (YtacggmlngekidaaGreatDoorTie.lean); close each card by the builder's one call (the guide's Derived/Test/ToyasCard.lean, 'card_holds'). Laid BY PROGRAM, IN A SANDBOX (cutbox-door.mjs). By AI agents, Wed Nov 11 2026. No macro, syntax, notation, axiom, sorry.
-/
import Derived.Test.YtacggmlngekidaaGreatDoorRows
import GoSem.ClaimSeven
namespace Go.Proofs.YtacggmlngekidaaGreatDoor
namespace Rows

/-- THE TIED CARD OF 'circalaw30.SeeksNear'. -/
def seeksNearCard : Claim7 := { stood := { row := seeksNearRow, standIns := [], harness := (true, "51cac5fc24bc9bd7f177f7942184754cd9c0bae43742b100b1f17b437b0a9447"), looks := true }, kinds := [], alts := [], laidByText := true, laidKinds := [.data, .data, .data, .data, .sentinel, .sentinel, .data, .data, .data, .pinned], laidTests := true, laidLooks := .later }
def SeeksNearCardSaid : Prop := Claim7.holds Tryz.pinned (.plain (OpenSpec.ofChange seeksNearSpec)) seeksNearCard

/-- THE TIED CARD OF 'circalaw30.SeeksWalk'. -/
def seeksWalkCard : Claim7 := { stood := { row := seeksWalkRow, standIns := [], harness := (true, "51cac5fc24bc9bd7f177f7942184754cd9c0bae43742b100b1f17b437b0a9447"), looks := true }, kinds := [], alts := [], laidByText := true, laidKinds := [.data, .data, .data, .data, .sentinel, .sentinel, .data, .data, .data, .pinned], laidTests := true, laidLooks := .later }
def SeeksWalkCardSaid : Prop := Claim7.holds Tryz.pinned (.plain (OpenSpec.ofChange seeksWalkSpec)) seeksWalkCard

/-- THE TIED CARD OF 'circalaw30.SeeksErrors'. -/
def seeksErrorsCard : Claim7 := { stood := { row := seeksErrorsRow, standIns := [], harness := (true, "51cac5fc24bc9bd7f177f7942184754cd9c0bae43742b100b1f17b437b0a9447"), looks := true }, kinds := [], alts := [], laidByText := true, laidKinds := [.data, .data, .data, .data, .sentinel, .sentinel, .data, .data, .data, .pinned], laidTests := true, laidLooks := .later }
def SeeksErrorsCardSaid : Prop := Claim7.holds Tryz.pinned (.plain (OpenSpec.ofChange seeksErrorsSpec)) seeksErrorsCard

/-- THE SECOND FORM's CARD OF 'circalaw30.SeeksNear'. -/
def seeksNearUptoCard : Claim7 := { stood := { row := seeksNearUptoRow, standIns := [], harness := (true, "51cac5fc24bc9bd7f177f7942184754cd9c0bae43742b100b1f17b437b0a9447"), looks := true }, kinds := [], alts := [], laidByText := true, laidKinds := [.data, .data, .data, .data, .sentinel, .sentinel, .data, .data, .data, .pinned], laidTests := true, laidLooks := .later }
def SeeksNearUptoCardSaid : Prop := Claim7.holds Tryz.pinned (.plain (OpenSpec.upto seeksNearSpec)) seeksNearUptoCard

/-- THE SECOND FORM's CARD OF 'circalaw30.SeeksWalk'. -/
def seeksWalkUptoCard : Claim7 := { stood := { row := seeksWalkUptoRow, standIns := [], harness := (true, "51cac5fc24bc9bd7f177f7942184754cd9c0bae43742b100b1f17b437b0a9447"), looks := true }, kinds := [], alts := [], laidByText := true, laidKinds := [.data, .data, .data, .data, .sentinel, .sentinel, .data, .data, .data, .pinned], laidTests := true, laidLooks := .later }
def SeeksWalkUptoCardSaid : Prop := Claim7.holds Tryz.pinned (.plain (OpenSpec.upto seeksWalkSpec)) seeksWalkUptoCard

/-- THE SECOND FORM's CARD OF 'circalaw30.SeeksErrors'. -/
def seeksErrorsUptoCard : Claim7 := { stood := { row := seeksErrorsUptoRow, standIns := [], harness := (true, "51cac5fc24bc9bd7f177f7942184754cd9c0bae43742b100b1f17b437b0a9447"), looks := true }, kinds := [], alts := [], laidByText := true, laidKinds := [.data, .data, .data, .data, .sentinel, .sentinel, .data, .data, .data, .pinned], laidTests := true, laidLooks := .later }
def SeeksErrorsUptoCardSaid : Prop := Claim7.holds Tryz.pinned (.plain (OpenSpec.upto seeksErrorsSpec)) seeksErrorsUptoCard
end Rows
end Go.Proofs.YtacggmlngekidaaGreatDoor
