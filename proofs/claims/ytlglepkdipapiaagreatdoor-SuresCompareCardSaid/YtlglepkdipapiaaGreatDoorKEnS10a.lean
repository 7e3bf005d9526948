/- Calls that were reckoned, level 10 (printed by genents.py). -/
import Derived.Test.YtlglepkdipapiaaGreatDoorKEnST10
/-! Calls that were reckoned, level 10 (printed by genents.py). -/
set_option linter.unusedVariables false
set_option maxRecDepth 1000000
namespace Go.Proofs.YtlglepkdipapiaaGreatDoor
open Go.RowKit
namespace Ev
/-- circa/circalaw37.lives: 494 operations. -/
noncomputable def esEnS10a0 : List Entry := [⟨[], [], q40, []⟩]
theorem esEnS10a0_made : madeE tbu (callM tbu msEnS10 100) hp 7 esEnS10a0 = true := by kernel_rfl
theorem esEnS10a0_ok {w0 : World} (hl : laidMetH Tryz.prog Rows.suresKnownRow.laid w0) : EsOk tbu w0 hp 7 esEnS10a0 := madeE_ok (tbu_ok w0) (msEnS10_ok hl) (start_ok hl) esEnS10a0_made
end Ev
end Go.Proofs.YtlglepkdipapiaaGreatDoor

