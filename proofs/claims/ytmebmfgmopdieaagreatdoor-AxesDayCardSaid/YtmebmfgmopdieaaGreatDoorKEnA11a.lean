/- Calls that were reckoned, level 11 (printed by genents.py). -/
import Derived.Test.YtmebmfgmopdieaaGreatDoorKEnAT11
/-! Calls that were reckoned, level 11 (printed by genents.py). -/
set_option linter.unusedVariables false
set_option maxRecDepth 1000000
namespace Go.Proofs.YtmebmfgmopdieaaGreatDoor
open Go.RowKit
namespace Ev
/-- circa/axes.Place: 102 operations. -/
noncomputable def esEnA11a0 : List Entry := [⟨[q77], [], q78, []⟩,
  ⟨[q79], [], q80, []⟩]
theorem esEnA11a0_made : madeE tbu (callM tbu msEnA11 100) hp 15 esEnA11a0 = true := by kernel_rfl
theorem esEnA11a0_ok {w0 : World} (hl : laidMetH Tryz.prog Rows.axesKnownRow.laid w0) : EsOk tbu w0 hp 15 esEnA11a0 := madeE_ok (tbu_ok w0) (msEnA11_ok hl) (start_ok hl) esEnA11a0_made
end Ev
end Go.Proofs.YtmebmfgmopdieaaGreatDoor

