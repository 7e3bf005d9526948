/- Calls that were reckoned, level 10 (printed by genents.py). -/
import Derived.Test.YtojihkdonkblaaaGreatDoorKEnOT10
/-! Calls that were reckoned, level 10 (printed by genents.py). -/
set_option linter.unusedVariables false
set_option maxRecDepth 1000000
namespace Go.Proofs.YtojihkdonkblaaaGreatDoor
open Go.RowKit
namespace Ev
/-- circa/orders.of: 150 operations. -/
noncomputable def esEnO10a0 : List Entry := [⟨[q50], [(.rowU [q1, q1, q17, q5, q5, q27, q27, q0, q0, q0, q1, q1, q1, q8, q5, q5, q8, q8, q0, q0, q0, q1, q1, q48, q5, q5, q8, q8, q0, q0, q0, q1, q1, q1, q8, q5, q5, q8, q8, q0, q0, q0] 21 100)], (.tup [q114, q5]), []⟩,
  ⟨[q68], [], q124, []⟩,
  ⟨[q93], [], (.tup [q140, q5]), []⟩]
theorem esEnO10a0_made : madeE tbu (callM tbu msEnO10 100) hp 26 esEnO10a0 = true := by kernel_rfl
theorem esEnO10a0_ok {w0 : World} (hl : laidMet Tryz.prog Rows.ordersKnownRow.laid w0) : EsOk tbu w0 hp 26 esEnO10a0 := madeE_ok (tbu_ok w0) (msEnO10_ok hl) (startOk hl lay_ok hp_eq) esEnO10a0_made
end Ev
end Go.Proofs.YtojihkdonkblaaaGreatDoor

