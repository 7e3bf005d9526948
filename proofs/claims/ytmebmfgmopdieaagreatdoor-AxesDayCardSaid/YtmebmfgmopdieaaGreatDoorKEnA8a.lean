/- Calls that were reckoned, level 8 (printed by genents.py). -/
import Derived.Test.YtmebmfgmopdieaaGreatDoorKEnAT8
/-! Calls that were reckoned, level 8 (printed by genents.py). -/
set_option linter.unusedVariables false
set_option maxRecDepth 1000000
namespace Go.Proofs.YtmebmfgmopdieaaGreatDoor
open Go.RowKit
namespace Ev
/-- circa/axes.Place: 51 operations. -/
noncomputable def esEnA8a0 : List Entry := [⟨[q25], [], q29, []⟩]
theorem esEnA8a0_made : madeE tbu (callM tbu msEnA8 100) hp 15 esEnA8a0 = true := by kernel_rfl
theorem esEnA8a0_ok {w0 : World} (hl : laidMetH Tryz.prog Rows.axesKnownRow.laid w0) : EsOk tbu w0 hp 15 esEnA8a0 := madeE_ok (tbu_ok w0) (msEnA8_ok hl) (start_ok hl) esEnA8a0_made
/-- circa/parsers.Parse: 6811 operations. -/
noncomputable def esEnA8a1 : List Entry := [⟨[(.v (.string ⟨#[48, 48, 48, 48, 45, 48, 49, 45, 48, 49, 47, 48, 48, 48, 48, 45, 48, 49, 45, 48, 50]⟩))], [], (.tup [q77, q5, q5, q5]), []⟩,
  ⟨[(.v (.string ⟨#[46, 46, 47, 48, 48, 48, 48, 45, 48, 49, 45, 48, 49]⟩))], [], (.tup [q79, q4, q5, q5]), []⟩]
theorem esEnA8a1_made : madeE tbu (callM tbu msEnA8 100) hp 44 esEnA8a1 = true := by kernel_rfl
theorem esEnA8a1_ok {w0 : World} (hl : laidMetH Tryz.prog Rows.axesKnownRow.laid w0) : EsOk tbu w0 hp 44 esEnA8a1 := madeE_ok (tbu_ok w0) (msEnA8_ok hl) (start_ok hl) esEnA8a1_made
/-- circa/exprs.Check: 272 operations. -/
noncomputable def esEnA8a2 : List Entry := [⟨[q77], [], q5, []⟩,
  ⟨[q79], [], q5, []⟩]
theorem esEnA8a2_made : madeE tbu (callM tbu msEnA8 100) hp 46 esEnA8a2 = true := by kernel_rfl
theorem esEnA8a2_ok {w0 : World} (hl : laidMetH Tryz.prog Rows.axesKnownRow.laid w0) : EsOk tbu w0 hp 46 esEnA8a2 := madeE_ok (tbu_ok w0) (msEnA8_ok hl) (start_ok hl) esEnA8a2_made
end Ev
end Go.Proofs.YtmebmfgmopdieaaGreatDoor

