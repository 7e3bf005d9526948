/- Calls that were reckoned, level 9 (printed by genents.py). -/
import Derived.Test.YtmebmfgmopdieaaGreatDoorKEnAT9
/-! Calls that were reckoned, level 9 (printed by genents.py). -/
set_option linter.unusedVariables false
set_option maxRecDepth 1000000
namespace Go.Proofs.YtmebmfgmopdieaaGreatDoor
open Go.RowKit
namespace Ev
/-- circa/circalaw36.read: 92 operations. -/
noncomputable def esEnA9a0 : List Entry := [⟨[(.v (.string ⟨#[48, 48, 48, 48, 45, 48, 49, 45, 48, 49, 47, 48, 48, 48, 48, 45, 48, 49, 45, 48, 50]⟩))], [], q77, []⟩,
  ⟨[(.v (.string ⟨#[46, 46, 47, 48, 48, 48, 48, 45, 48, 49, 45, 48, 49]⟩))], [], q79, []⟩]
theorem esEnA9a0_made : madeE tbu (callM tbu msEnA9 100) hp 16 esEnA9a0 = true := by kernel_rfl
theorem esEnA9a0_ok {w0 : World} (hl : laidMetH Tryz.prog Rows.axesKnownRow.laid w0) : EsOk tbu w0 hp 16 esEnA9a0 := madeE_ok (tbu_ok w0) (msEnA9_ok hl) (start_ok hl) esEnA9a0_made
/-- circa/families.Of: 102 operations. -/
noncomputable def esEnA9a1 : List Entry := [⟨[q77], [], q27, [(.row [q14, (.sl 16 0 1 1), q1, q1, q9, q5, q5, q9, q9, q0, q0, q0, q0, q19, q5, q19, q5] 95), (.row [q19, q5, q19, q4] 26)]⟩,
  ⟨[q79], [], q27, [(.row [q14, (.sl 16 0 1 1), q1, q1, q9, q5, q5, q9, q9, q0, q0, q0, q0, q19, q5, q19, q5] 95), (.row [(.v (.int .i8 (-1))), q5, q19, q5] 26)]⟩]
theorem esEnA9a1_made : madeE tbu (callM tbu msEnA9 100) hp 48 esEnA9a1 = true := by kernel_rfl
theorem esEnA9a1_ok {w0 : World} (hl : laidMetH Tryz.prog Rows.axesKnownRow.laid w0) : EsOk tbu w0 hp 48 esEnA9a1 := madeE_ok (tbu_ok w0) (msEnA9_ok hl) (start_ok hl) esEnA9a1_made
end Ev
end Go.Proofs.YtmebmfgmopdieaaGreatDoor

