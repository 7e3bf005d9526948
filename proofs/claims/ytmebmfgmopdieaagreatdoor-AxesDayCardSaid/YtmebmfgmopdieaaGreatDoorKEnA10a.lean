/- Calls that were reckoned, level 10 (printed by genents.py). -/
import Derived.Test.YtmebmfgmopdieaaGreatDoorKEnAT10
/-! Calls that were reckoned, level 10 (printed by genents.py). -/
set_option linter.unusedVariables false
set_option maxRecDepth 1000000
namespace Go.Proofs.YtmebmfgmopdieaaGreatDoor
open Go.RowKit
namespace Ev
/-- circa/extents.Of: 292 operations. -/
noncomputable def esEnA10a0 : List Entry := [⟨[q77], [], (.tup [(.agg [q19, q5, q19, q4]), q5]), []⟩,
  ⟨[q79], [], (.tup [(.agg [(.v (.int .i8 (-1))), q5, q19, q5]), q5]), []⟩]
theorem esEnA10a0_made : madeE tbu (callM tbu msEnA10 100) hp 43 esEnA10a0 = true := by kernel_rfl
theorem esEnA10a0_ok {w0 : World} (hl : laidMetH Tryz.prog Rows.axesKnownRow.laid w0) : EsOk tbu w0 hp 43 esEnA10a0 := madeE_ok (tbu_ok w0) (msEnA10_ok hl) (start_ok hl) esEnA10a0_made
end Ev
end Go.Proofs.YtmebmfgmopdieaaGreatDoor

