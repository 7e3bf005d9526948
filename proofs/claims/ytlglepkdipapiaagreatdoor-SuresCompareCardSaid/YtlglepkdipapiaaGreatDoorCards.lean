/-
  DERIVED. GIVEN WITH THE SEED: THE CARDS: each row of YtlglepkdipapiaaGreatDoorRows.lean that lists a variable, with what it lists TIED to the program's text (the seventh form; the later family's looks); each row that meets fmt, with fmt's text TOLD by the authors' own Lean function (tested against real Go, not proved from fmt's source: count such statements apart). THE CARD IS WHAT COUNTS. Prove the row's statement (the work); the ties are given (YtlglepkdipapiaaGreatDoorTie.lean); close each card by the builder's one call (the guide's Derived/Test/ToyasCard.lean, 'card_holds'). Laid BY PROGRAM, IN A SANDBOX (cutbox-door.mjs). By AI agents, Wed Nov 11 2026. No macro, syntax, notation, axiom, sorry.
-/
import Derived.Test.YtlglepkdipapiaaGreatDoorRows
import GoSem.ClaimSeven
namespace Go.Proofs.YtlglepkdipapiaaGreatDoor
namespace Rows

/-- THE TIED CARD OF 'circalaw37.SuresCompare'. -/
def suresCompareCard : Claim7 := { stood := { row := suresCompareRow, standIns := [], harness := (true, "4a58c2c0b09737e98108a9881e1b1834772a42812b614860df9038e513fa5148"), looks := true }, kinds := [], alts := [], laidByText := true, laidKinds := [.data, .data, .data, .data, .sentinel, .sentinel, .data, .data, .data, .funcs, .data, .pinned], laidTests := true, laidLooks := .later }
def SuresCompareCardSaid : Prop := Claim7.holds Tryz.pinned (.plain (OpenSpec.ofChange suresCompareSpec)) suresCompareCard

/-- THE TIED CARD OF 'circalaw37.SuresKnown'. -/
def suresKnownCard : Claim7 := { stood := { row := suresKnownRow, standIns := [], harness := (true, "4a58c2c0b09737e98108a9881e1b1834772a42812b614860df9038e513fa5148"), looks := true }, kinds := [], alts := [], laidByText := true, laidKinds := [.data, .data, .data, .data, .sentinel, .sentinel, .data, .data, .data, .funcs, .data, .pinned], laidTests := true, laidLooks := .later }
def SuresKnownCardSaid : Prop := Claim7.holds Tryz.pinned (.plain (OpenSpec.ofChange suresKnownSpec)) suresKnownCard

/-- THE SECOND FORM's CARD OF 'circalaw37.SuresCompare'. -/
def suresCompareUptoCard : Claim7 := { stood := { row := suresCompareUptoRow, standIns := [], harness := (true, "4a58c2c0b09737e98108a9881e1b1834772a42812b614860df9038e513fa5148"), looks := true }, kinds := [], alts := [], laidByText := true, laidKinds := [.data, .data, .data, .data, .sentinel, .sentinel, .data, .data, .data, .funcs, .data, .pinned], laidTests := true, laidLooks := .later }
def SuresCompareUptoCardSaid : Prop := Claim7.holds Tryz.pinned (.plain (OpenSpec.upto suresCompareSpec)) suresCompareUptoCard

/-- THE SECOND FORM's CARD OF 'circalaw37.SuresKnown'. -/
def suresKnownUptoCard : Claim7 := { stood := { row := suresKnownUptoRow, standIns := [], harness := (true, "4a58c2c0b09737e98108a9881e1b1834772a42812b614860df9038e513fa5148"), looks := true }, kinds := [], alts := [], laidByText := true, laidKinds := [.data, .data, .data, .data, .sentinel, .sentinel, .data, .data, .data, .funcs, .data, .pinned], laidTests := true, laidLooks := .later }
def SuresKnownUptoCardSaid : Prop := Claim7.holds Tryz.pinned (.plain (OpenSpec.upto suresKnownSpec)) suresKnownUptoCard
end Rows
end Go.Proofs.YtlglepkdipapiaaGreatDoor
