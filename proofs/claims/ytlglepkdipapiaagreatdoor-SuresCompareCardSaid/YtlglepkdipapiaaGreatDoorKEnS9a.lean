/- Calls that were reckoned, level 9 (printed by genents.py). -/
import Derived.Test.YtlglepkdipapiaaGreatDoorKEnST9
/-! Calls that were reckoned, level 9 (printed by genents.py). -/
set_option linter.unusedVariables false
set_option maxRecDepth 1000000
namespace Go.Proofs.YtlglepkdipapiaaGreatDoor
open Go.RowKit
namespace Ev
/-- circa/sures.Lengths: 294 operations. -/
noncomputable def esEnS9a0 : List Entry := [⟨[q200], [], (.tup [(.agg [q4, q1]), (.agg [q4, q1]), q5]), []⟩]
theorem esEnS9a0_made : madeE tbu (callM tbu msEnS9 100) hp 9 esEnS9a0 = true := by kernel_rfl
theorem esEnS9a0_ok {w0 : World} (hl : laidMetH Tryz.prog Rows.suresKnownRow.laid w0) : EsOk tbu w0 hp 9 esEnS9a0 := madeE_ok (tbu_ok w0) (msEnS9_ok hl) (start_ok hl) esEnS9a0_made
/-- circa/sures.One: 185 operations. -/
noncomputable def esEnS9a1 : List Entry := [⟨[q212], [], q135, []⟩,
  ⟨[q249], [], q110, []⟩]
theorem esEnS9a1_made : madeE tbu (callM tbu msEnS9 100) hp 10 esEnS9a1 = true := by kernel_rfl
theorem esEnS9a1_ok {w0 : World} (hl : laidMetH Tryz.prog Rows.suresKnownRow.laid w0) : EsOk tbu w0 hp 10 esEnS9a1 := madeE_ok (tbu_ok w0) (msEnS9_ok hl) (start_ok hl) esEnS9a1_made
/-- circa/sures.Days: 9568 operations. -/
noncomputable def esEnS9a2 : List Entry := [⟨[q212, q4], [], q23, [(.rowU [q19, q214, q19, q214] 4 54)]⟩,
  ⟨[q219, q105], [(.rowU [q1, q1, q6, q5, q5, q194, q7, q0, q0, q0, q1, q1, q1, q7, q5, q5, q7, q7, q0, q0, q0, q1, q1, q6, q5, q5, q194, q206, q0, q0, q0, q1, q1, q1, q7, q5, q5, q7, q7, q0, q0, q0] 21 102)], q64, [(.rowU [q19, q214, q19, q214] 4 54)]⟩,
  ⟨[q227, q105], [], q23, [(.rowU [q19, q214, q19, q214] 4 54)]⟩]
theorem esEnS9a2_made : madeE tbu (callM tbu msEnS9 100) hp 12 esEnS9a2 = true := by kernel_rfl
theorem esEnS9a2_ok {w0 : World} (hl : laidMetH Tryz.prog Rows.suresKnownRow.laid w0) : EsOk tbu w0 hp 12 esEnS9a2 := madeE_ok (tbu_ok w0) (msEnS9_ok hl) (start_ok hl) esEnS9a2_made
end Ev
end Go.Proofs.YtlglepkdipapiaaGreatDoor

