/- Calls that were reckoned, level 12 (printed by genents.py). -/
import Derived.Test.YtmebmfgmopdieaaGreatDoorKEnAT12
/-! Calls that were reckoned, level 12 (printed by genents.py). -/
set_option linter.unusedVariables false
set_option maxRecDepth 1000000
namespace Go.Proofs.YtmebmfgmopdieaaGreatDoor
open Go.RowKit
namespace Ev
/-- circa/circalaw36.lives: 892 operations. -/
noncomputable def esEnA12a0 : List Entry := [⟨[], [], q6, []⟩]
theorem esEnA12a0_made : madeE tbu (callM tbu msEnA12 100) hp 9 esEnA12a0 = true := by kernel_rfl
theorem esEnA12a0_ok {w0 : World} (hl : laidMetH Tryz.prog Rows.axesKnownRow.laid w0) : EsOk tbu w0 hp 9 esEnA12a0 := madeE_ok (tbu_ok w0) (msEnA12_ok hl) (start_ok hl) esEnA12a0_made
end Ev
end Go.Proofs.YtmebmfgmopdieaaGreatDoor

