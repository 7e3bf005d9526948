/- Calls that were reckoned, level 2 (printed by genents.py). -/
import Derived.Test.YtmebmfgmopdieaaGreatDoorKEnAT2
/-! Calls that were reckoned, level 2 (printed by genents.py). -/
set_option linter.unusedVariables false
set_option maxRecDepth 1000000
namespace Go.Proofs.YtmebmfgmopdieaaGreatDoor
open Go.RowKit
namespace Ev
/-- circa/fillings.Check: 210 operations. -/
noncomputable def esEnA2a0 : List Entry := [⟨[q10], [], q5, []⟩,
  ⟨[q16], [], q5, []⟩,
  ⟨[q51], [], q5, []⟩,
  ⟨[q82], [], q5, []⟩,
  ⟨[q88], [], q5, []⟩]
theorem esEnA2a0_made : madeE tbu (callM tbu msEnA2 100) hp 99 esEnA2a0 = true := by kernel_rfl
theorem esEnA2a0_ok {w0 : World} (hl : laidMetH Tryz.prog Rows.axesKnownRow.laid w0) : EsOk tbu w0 hp 99 esEnA2a0 := madeE_ok (tbu_ok w0) (msEnA2_ok hl) (start_ok hl) esEnA2a0_made
/-- circa/fillings.of: 134 operations. -/
noncomputable def esEnA2a1 : List Entry := [⟨[q66], [], q68, [(.rowU [q4] 1 3), (.rowU [q4] 1 3)]⟩,
  ⟨[q73], [], q74, [(.rowU [q4] 1 3), (.rowU [q13] 1 3)]⟩]
theorem esEnA2a1_made : madeE tbu (callM tbu msEnA2 100) hp 139 esEnA2a1 = true := by kernel_rfl
theorem esEnA2a1_ok {w0 : World} (hl : laidMetH Tryz.prog Rows.axesKnownRow.laid w0) : EsOk tbu w0 hp 139 esEnA2a1 := madeE_ok (tbu_ok w0) (msEnA2_ok hl) (start_ok hl) esEnA2a1_made
/-- (circa/fillings.form).year: 218 operations. -/
noncomputable def esEnA2a2 : List Entry := [⟨[q68, q30, q6], [(.rowU [q4] 1 3), (.rowU [q4] 1 3)], (.tup [q5, q6]), []⟩,
  ⟨[q74, q30, q6], [(.rowU [q4] 1 3), (.rowU [q13] 1 3)], (.tup [q5, q6]), []⟩]
theorem esEnA2a2_made : madeE tbu (callM tbu msEnA2 100) hp 197 esEnA2a2 = true := by kernel_rfl
theorem esEnA2a2_ok {w0 : World} (hl : laidMetH Tryz.prog Rows.axesKnownRow.laid w0) : EsOk tbu w0 hp 197 esEnA2a2 := madeE_ok (tbu_ok w0) (msEnA2_ok hl) (start_ok hl) esEnA2a2_made
/-- circa/months.length: 49 operations. -/
noncomputable def esEnA2a3 : List Entry := [⟨[q5, q4], [], q67, []⟩]
theorem esEnA2a3_made : madeE tbu (callM tbu msEnA2 100) hp 304 esEnA2a3 = true := by kernel_rfl
theorem esEnA2a3_ok {w0 : World} (hl : laidMetH Tryz.prog Rows.axesKnownRow.laid w0) : EsOk tbu w0 hp 304 esEnA2a3 := madeE_ok (tbu_ok w0) (msEnA2_ok hl) (start_ok hl) esEnA2a3_made
end Ev
end Go.Proofs.YtmebmfgmopdieaaGreatDoor

