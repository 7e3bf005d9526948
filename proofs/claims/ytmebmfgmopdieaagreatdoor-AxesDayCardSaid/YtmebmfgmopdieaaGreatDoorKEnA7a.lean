/- Calls that were reckoned, level 7 (printed by genents.py). -/
import Derived.Test.YtmebmfgmopdieaaGreatDoorKEnAT7
/-! Calls that were reckoned, level 7 (printed by genents.py). -/
set_option linter.unusedVariables false
set_option maxRecDepth 1000000
namespace Go.Proofs.YtmebmfgmopdieaaGreatDoor
open Go.RowKit
namespace Ev
/-- circa/axes.Place: 51 operations. -/
noncomputable def esEnA7a0 : List Entry := [⟨[q84], [], q87, []⟩]
theorem esEnA7a0_made : madeE tbu (callM tbu msEnA7 100) hp 15 esEnA7a0 = true := by kernel_rfl
theorem esEnA7a0_ok {w0 : World} (hl : laidMetH Tryz.prog Rows.axesKnownRow.laid w0) : EsOk tbu w0 hp 15 esEnA7a0 := madeE_ok (tbu_ok w0) (msEnA7_ok hl) (start_ok hl) esEnA7a0_made
/-- circa/axes.Inside: 743 operations. -/
noncomputable def esEnA7a1 : List Entry := [⟨[q53, (.v (.float .f64 14114063095424393472))], [(.rowU [q1, q1, q50, q5, q5, q9, q9, q0, q0, q0, q1, q1, q1, q9, q5, q5, q9, q9, q0, q0, q0] 21 123)], (.tup [q23, q5]), []⟩,
  ⟨[q62, (.v (.float .f64 18318360957983683996))], [], (.tup [q52, q5]), []⟩,
  ⟨[q89, (.v (.float .f64 4645137560190844928))], [], (.tup [q52, q5]), []⟩,
  ⟨[q89, (.v (.float .f64 4645146356283867136))], [], q54, []⟩,
  ⟨[q92, (.v (.float .f64 9218868437227405312))], [], (.tup [q52, q5]), []⟩,
  ⟨[q93, (.v (.float .f64 9218868437227405312))], [], q54, []⟩]
theorem esEnA7a1_made : madeE tbu (callM tbu msEnA7 100) hp 20 esEnA7a1 = true := by kernel_rfl
theorem esEnA7a1_ok {w0 : World} (hl : laidMetH Tryz.prog Rows.axesKnownRow.laid w0) : EsOk tbu w0 hp 20 esEnA7a1 := madeE_ok (tbu_ok w0) (msEnA7_ok hl) (start_ok hl) esEnA7a1_made
/-- circa/extents.Of: 146 operations. -/
noncomputable def esEnA7a2 : List Entry := [⟨[q25], [], (.tup [q28, q5]), []⟩]
theorem esEnA7a2_made : madeE tbu (callM tbu msEnA7 100) hp 43 esEnA7a2 = true := by kernel_rfl
theorem esEnA7a2_ok {w0 : World} (hl : laidMetH Tryz.prog Rows.axesKnownRow.laid w0) : EsOk tbu w0 hp 43 esEnA7a2 := madeE_ok (tbu_ok w0) (msEnA7_ok hl) (start_ok hl) esEnA7a2_made
/-- circa/families.interval: 366 operations. -/
noncomputable def esEnA7a3 : List Entry := [⟨[q77], [], q26, [(.row [q19, q5, q19, q4] 26)]⟩,
  ⟨[q79], [], q26, [(.row [(.v (.int .i8 (-1))), q5, q19, q5] 26)]⟩]
theorem esEnA7a3_made : madeE tbu (callM tbu msEnA7 100) hp 74 esEnA7a3 = true := by kernel_rfl
theorem esEnA7a3_ok {w0 : World} (hl : laidMetH Tryz.prog Rows.axesKnownRow.laid w0) : EsOk tbu w0 hp 74 esEnA7a3 := madeE_ok (tbu_ok w0) (msEnA7_ok hl) (start_ok hl) esEnA7a3_made
/-- circa/bounds.Pair: 420 operations. -/
noncomputable def esEnA7a4 : List Entry := [⟨[q71, q76], [], q5, []⟩,
  ⟨[q61, q71], [], q5, []⟩]
theorem esEnA7a4_made : madeE tbu (callM tbu msEnA7 100) hp 100 esEnA7a4 = true := by kernel_rfl
theorem esEnA7a4_ok {w0 : World} (hl : laidMetH Tryz.prog Rows.axesKnownRow.laid w0) : EsOk tbu w0 hp 100 esEnA7a4 := madeE_ok (tbu_ok w0) (msEnA7_ok hl) (start_ok hl) esEnA7a4_made
end Ev
end Go.Proofs.YtmebmfgmopdieaaGreatDoor

