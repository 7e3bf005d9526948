/- Calls that were reckoned, level 8 (printed by genents.py). -/
import Derived.Test.YtlglepkdipapiaaGreatDoorKEnST8
/-! Calls that were reckoned, level 8 (printed by genents.py). -/
set_option linter.unusedVariables false
set_option maxRecDepth 1000000
namespace Go.Proofs.YtlglepkdipapiaaGreatDoor
open Go.RowKit
namespace Ev
/-- circa/sures.Lengths: 821 operations. -/
noncomputable def esEnS8a0 : List Entry := [⟨[q157], [], (.tup [(.agg [q4, q1]), (.agg [q4, q1]), q5]), []⟩,
  ⟨[q161], [], (.tup [q163, q163, q5]), []⟩]
theorem esEnS8a0_made : madeE tbu (callM tbu msEnS8 100) hp 9 esEnS8a0 = true := by kernel_rfl
theorem esEnS8a0_ok {w0 : World} (hl : laidMetH Tryz.prog Rows.suresKnownRow.laid w0) : EsOk tbu w0 hp 9 esEnS8a0 := madeE_ok (tbu_ok w0) (msEnS8_ok hl) (start_ok hl) esEnS8a0_made
/-- circa/families.Of: 293 operations. -/
noncomputable def esEnS8a1 : List Entry := [⟨[q200], [], q23, [(.row [q12, (.sl 17 0 1 1), q1, q1, q7, q5, q5, q7, q7, q0, q0, q0, q0, q19, q5, q19, q5] 72), (.row [q19, q20, q19, q20] 54)]⟩,
  ⟨[q219], [(.rowU [q1, q1, q6, q5, q5, q194, q7, q0, q0, q0, q1, q1, q1, q7, q5, q5, q7, q7, q0, q0, q0, q1, q1, q6, q5, q5, q194, q206, q0, q0, q0, q1, q1, q1, q7, q5, q5, q7, q7, q0, q0, q0] 21 102)], q223, [(.row [q12, (.sl 18 0 1 1), q1, q1, q7, q5, q5, q7, q7, q0, q0, q0, q0, q19, q5, q19, q5, q12, (.sl 19 0 1 1), q1, q1, q7, q5, q5, q7, q7, q0, q0, q0, q0, q19, q5, q19, q5] 72), (.row [q19, q20, q19, q214] 54), (.row [q19, q214, q19, q214] 54)]⟩,
  ⟨[q227], [], q23, [(.row [(.v (.int .u8 (5))), q13, q1, q1, q7, q5, q5, q7, q7, q0, q0, q0, q0, q19, q214, (.v (.int .i8 (1))), q5] 72)]⟩]
theorem esEnS8a1_made : madeE tbu (callM tbu msEnS8 100) hp 18 esEnS8a1 = true := by kernel_rfl
theorem esEnS8a1_ok {w0 : World} (hl : laidMetH Tryz.prog Rows.suresKnownRow.laid w0) : EsOk tbu w0 hp 18 esEnS8a1 := madeE_ok (tbu_ok w0) (msEnS8_ok hl) (start_ok hl) esEnS8a1_made
/-- circa/sures.only: 146 operations. -/
noncomputable def esEnS8a2 : List Entry := [⟨[q213], [], q217, [(.row [q19, q214, q19, q214] 54)]⟩,
  ⟨[q250], [], (.tup [q13, q1]), []⟩]
theorem esEnS8a2_made : madeE tbu (callM tbu msEnS8 100) hp 23 esEnS8a2 = true := by kernel_rfl
theorem esEnS8a2_ok {w0 : World} (hl : laidMetH Tryz.prog Rows.suresKnownRow.laid w0) : EsOk tbu w0 hp 23 esEnS8a2 := madeE_ok (tbu_ok w0) (msEnS8_ok hl) (start_ok hl) esEnS8a2_made
end Ev
end Go.Proofs.YtlglepkdipapiaaGreatDoor

