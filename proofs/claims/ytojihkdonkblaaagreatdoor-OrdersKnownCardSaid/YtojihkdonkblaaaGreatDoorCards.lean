/-
  DERIVED. GIVEN WITH THE SEED: THE CARDS: each row of YtojihkdonkblaaaGreatDoorRows.lean that lists a variable, with what it lists TIED to the program's text (the seventh form; the later family's looks); each row that meets fmt, with fmt's text TOLD by the authors' own Lean function (tested against real Go, not proved from fmt's source: count such statements apart). THE CARD IS WHAT COUNTS. Prove the row's statement (the work); the ties are given (YtojihkdonkblaaaGreatDoorTie.lean); close each card by the builder's one call (the guide's Derived/Test/ToyasCard.lean, 'card_holds'). Laid BY PROGRAM, IN A SANDBOX (cutbox-door.mjs). By AI agents, Wed Nov 11 2026. No macro, syntax, notation, axiom, sorry.
-/
import Derived.Test.YtojihkdonkblaaaGreatDoorRows
import GoSem.ClaimSeven
namespace Go.Proofs.YtojihkdonkblaaaGreatDoor
namespace Rows

/-- THE TIED CARD OF 'circalaw34.OrdersKnown'. -/
def ordersKnownCard : Claim7 := { stood := { row := ordersKnownRow, standIns := [], harness := (true, "ff662a5638491fa0cf1abed3b1dd179c1088ce4d4495cade48f4cc96b57e0f71"), looks := true }, kinds := [], alts := [], laidByText := true, laidKinds := [.data, .data, .data, .data, .sentinel, .sentinel, .data, .data, .data, .pinned], laidTests := true, laidLooks := .later }
def OrdersKnownCardSaid : Prop := Claim7.holds Tryz.pinned (.plain (OpenSpec.ofChange ordersKnownSpec)) ordersKnownCard

/-- THE SECOND FORM's CARD OF 'circalaw34.OrdersKnown'. -/
def ordersKnownUptoCard : Claim7 := { stood := { row := ordersKnownUptoRow, standIns := [], harness := (true, "ff662a5638491fa0cf1abed3b1dd179c1088ce4d4495cade48f4cc96b57e0f71"), looks := true }, kinds := [], alts := [], laidByText := true, laidKinds := [.data, .data, .data, .data, .sentinel, .sentinel, .data, .data, .data, .pinned], laidTests := true, laidLooks := .later }
def OrdersKnownUptoCardSaid : Prop := Claim7.holds Tryz.pinned (.plain (OpenSpec.upto ordersKnownSpec)) ordersKnownUptoCard
end Rows
end Go.Proofs.YtojihkdonkblaaaGreatDoor
