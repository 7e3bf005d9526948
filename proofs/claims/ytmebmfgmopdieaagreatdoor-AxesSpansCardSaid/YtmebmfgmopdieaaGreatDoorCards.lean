/-
  DERIVED. GIVEN WITH THE SEED: THE CARDS: each row of YtmebmfgmopdieaaGreatDoorRows.lean that lists a variable, with what it lists TIED to the program's text (the seventh form; the later family's looks); each row that meets fmt, with fmt's text TOLD by the authors' own Lean function (tested against real Go, not proved from fmt's source: count such statements apart). THE CARD IS WHAT COUNTS. Prove the row's statement (the work); the ties are given (YtmebmfgmopdieaaGreatDoorTie.lean); close each card by the builder's one call (the guide's Derived/Test/ToyasCard.lean, 'card_holds'). Laid BY PROGRAM, IN A SANDBOX (cutbox-door.mjs). By AI agents, Wed Nov 11 2026. No macro, syntax, notation, axiom, sorry.
-/
import Derived.Test.YtmebmfgmopdieaaGreatDoorRows
import GoSem.ClaimSeven
namespace Go.Proofs.YtmebmfgmopdieaaGreatDoor
namespace Rows

/-- THE TIED CARD OF 'circalaw36.AxesRun'. -/
def axesRunCard : Claim7 := { stood := { row := axesRunRow, standIns := [], harness := (true, "05e29d3487825b3b292df1106e9eb34e950369eb12006448e08739009f6fc34e"), looks := true }, kinds := [], alts := [], laidByText := true, laidKinds := [.data, .data, .data, .data, .sentinel, .sentinel, .data, .data, .data, .pinned], laidTests := true, laidLooks := .later }
def AxesRunCardSaid : Prop := Claim7.holds Tryz.pinned (.plain (OpenSpec.ofChange axesRunSpec)) axesRunCard

/-- THE TIED CARD OF 'circalaw36.AxesDay'. -/
def axesDayCard : Claim7 := { stood := { row := axesDayRow, standIns := [], harness := (true, "05e29d3487825b3b292df1106e9eb34e950369eb12006448e08739009f6fc34e"), looks := true }, kinds := [], alts := [], laidByText := true, laidKinds := [.data, .data, .data, .data, .sentinel, .sentinel, .data, .data, .data, .pinned], laidTests := true, laidLooks := .later }
def AxesDayCardSaid : Prop := Claim7.holds Tryz.pinned (.plain (OpenSpec.ofChange axesDaySpec)) axesDayCard

/-- THE TIED CARD OF 'circalaw36.AxesKnown'. -/
def axesKnownCard : Claim7 := { stood := { row := axesKnownRow, standIns := [], harness := (true, "05e29d3487825b3b292df1106e9eb34e950369eb12006448e08739009f6fc34e"), looks := true }, kinds := [], alts := [], laidByText := true, laidKinds := [.data, .data, .data, .data, .sentinel, .sentinel, .data, .data, .data, .pinned], laidTests := true, laidLooks := .later }
def AxesKnownCardSaid : Prop := Claim7.holds Tryz.pinned (.plain (OpenSpec.ofChange axesKnownSpec)) axesKnownCard

/-- THE TIED CARD OF 'circalaw36.AxesSpans'. -/
def axesSpansCard : Claim7 := { stood := { row := axesSpansRow, standIns := [], harness := (true, "05e29d3487825b3b292df1106e9eb34e950369eb12006448e08739009f6fc34e"), looks := true }, kinds := [], alts := [], laidByText := true, laidKinds := [.data, .data, .data, .data, .sentinel, .sentinel, .data, .data, .data, .pinned], laidTests := true, laidLooks := .later }
def AxesSpansCardSaid : Prop := Claim7.holds Tryz.pinned (.plain (OpenSpec.ofChange axesSpansSpec)) axesSpansCard

/-- THE SECOND FORM's CARD OF 'circalaw36.AxesRun'. -/
def axesRunUptoCard : Claim7 := { stood := { row := axesRunUptoRow, standIns := [], harness := (true, "05e29d3487825b3b292df1106e9eb34e950369eb12006448e08739009f6fc34e"), looks := true }, kinds := [], alts := [], laidByText := true, laidKinds := [.data, .data, .data, .data, .sentinel, .sentinel, .data, .data, .data, .pinned], laidTests := true, laidLooks := .later }
def AxesRunUptoCardSaid : Prop := Claim7.holds Tryz.pinned (.plain (OpenSpec.upto axesRunSpec)) axesRunUptoCard

/-- THE SECOND FORM's CARD OF 'circalaw36.AxesDay'. -/
def axesDayUptoCard : Claim7 := { stood := { row := axesDayUptoRow, standIns := [], harness := (true, "05e29d3487825b3b292df1106e9eb34e950369eb12006448e08739009f6fc34e"), looks := true }, kinds := [], alts := [], laidByText := true, laidKinds := [.data, .data, .data, .data, .sentinel, .sentinel, .data, .data, .data, .pinned], laidTests := true, laidLooks := .later }
def AxesDayUptoCardSaid : Prop := Claim7.holds Tryz.pinned (.plain (OpenSpec.upto axesDaySpec)) axesDayUptoCard

/-- THE SECOND FORM's CARD OF 'circalaw36.AxesKnown'. -/
def axesKnownUptoCard : Claim7 := { stood := { row := axesKnownUptoRow, standIns := [], harness := (true, "05e29d3487825b3b292df1106e9eb34e950369eb12006448e08739009f6fc34e"), looks := true }, kinds := [], alts := [], laidByText := true, laidKinds := [.data, .data, .data, .data, .sentinel, .sentinel, .data, .data, .data, .pinned], laidTests := true, laidLooks := .later }
def AxesKnownUptoCardSaid : Prop := Claim7.holds Tryz.pinned (.plain (OpenSpec.upto axesKnownSpec)) axesKnownUptoCard

/-- THE SECOND FORM's CARD OF 'circalaw36.AxesSpans'. -/
def axesSpansUptoCard : Claim7 := { stood := { row := axesSpansUptoRow, standIns := [], harness := (true, "05e29d3487825b3b292df1106e9eb34e950369eb12006448e08739009f6fc34e"), looks := true }, kinds := [], alts := [], laidByText := true, laidKinds := [.data, .data, .data, .data, .sentinel, .sentinel, .data, .data, .data, .pinned], laidTests := true, laidLooks := .later }
def AxesSpansUptoCardSaid : Prop := Claim7.holds Tryz.pinned (.plain (OpenSpec.upto axesSpansSpec)) axesSpansUptoCard
end Rows
end Go.Proofs.YtmebmfgmopdieaaGreatDoor
