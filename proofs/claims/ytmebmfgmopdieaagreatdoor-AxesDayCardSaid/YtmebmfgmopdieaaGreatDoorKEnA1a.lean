/- Calls that were reckoned, level 1 (printed by genents.py). -/
import Derived.Test.YtmebmfgmopdieaaGreatDoorKEnAT1
/-! Calls that were reckoned, level 1 (printed by genents.py). -/
set_option linter.unusedVariables false
set_option maxRecDepth 1000000
namespace Go.Proofs.YtmebmfgmopdieaaGreatDoor
open Go.RowKit
namespace Ev
/-- circa/parsers.of: 4111 operations. -/
noncomputable def esEnA1a0 : List Entry := [⟨[(.v (.string ⟨#[89, 45, 49, 69, 49, 54]⟩)), q10], [], q13, []⟩,
  ⟨[(.v (.string ⟨#[89, 49, 69, 49, 54]⟩)), q16], [], q13, []⟩,
  ⟨[q50, q51], [], q5, []⟩,
  ⟨[q69, q66], [], q5, []⟩,
  ⟨[q75, q73], [], q5, []⟩,
  ⟨[q83, q82], [], q4, []⟩,
  ⟨[q64, q88], [], q5, []⟩]
theorem esEnA1a0_made : madeE tbu (callM tbu msEnA1 100) hp 136 esEnA1a0 = true := by kernel_rfl
theorem esEnA1a0_ok {w0 : World} (hl : laidMetH Tryz.prog Rows.axesKnownRow.laid w0) : EsOk tbu w0 hp 136 esEnA1a0 := madeE_ok (tbu_ok w0) (msEnA1_ok hl) (start_ok hl) esEnA1a0_made
/-- circa/dateforms.Check: 1419 operations. -/
noncomputable def esEnA1a1 : List Entry := [⟨[q10], [], q5, []⟩,
  ⟨[q16], [], q5, []⟩,
  ⟨[q51], [], q5, []⟩,
  ⟨[q66], [], q5, []⟩,
  ⟨[q73], [], q5, []⟩,
  ⟨[q82], [], q5, []⟩,
  ⟨[q88], [], q5, []⟩]
theorem esEnA1a1_made : madeE tbu (callM tbu msEnA1 100) hp 138 esEnA1a1 = true := by kernel_rfl
theorem esEnA1a1_ok {w0 : World} (hl : laidMetH Tryz.prog Rows.axesKnownRow.laid w0) : EsOk tbu w0 hp 138 esEnA1a1 := madeE_ok (tbu_ok w0) (msEnA1_ok hl) (start_ok hl) esEnA1a1_made
/-- circa/yearforms.Value: 3410 operations. -/
noncomputable def esEnA1a2 : List Entry := [⟨[(.agg [q6, q6, q7, q8, q5])], [], (.tup [q18, q5]), []⟩,
  ⟨[(.agg [q1, q6, q7, q8, q5])], [], (.tup [q21, q5]), []⟩,
  ⟨[(.agg [q1, q1, q50, q5, q5])], [], (.tup [(.v (.int .i64 (2004))), q5]), []⟩,
  ⟨[(.agg [q1, q1, q64, q5, q5])], [], (.tup [q5, q5]), []⟩,
  ⟨[(.agg [q1, q6, q81, q5, q5])], [], (.tup [q85, q5]), []⟩]
theorem esEnA1a2_made : madeE tbu (callM tbu msEnA1 100) hp 164 esEnA1a2 = true := by kernel_rfl
theorem esEnA1a2_ok {w0 : World} (hl : laidMetH Tryz.prog Rows.axesKnownRow.laid w0) : EsOk tbu w0 hp 164 esEnA1a2 := madeE_ok (tbu_ok w0) (msEnA1_ok hl) (start_ok hl) esEnA1a2_made
/-- circa/units.unit: 780 operations. -/
noncomputable def esEnA1a3 : List Entry := [⟨[q10, (.agg [q18, q5, q5])], [], q20, []⟩,
  ⟨[q16, (.agg [q21, q5, q5])], [], q22, []⟩,
  ⟨[q51, (.agg [(.v (.int .i64 (2004))), q5, q5])], [], q56, []⟩,
  ⟨[q82, (.agg [q85, q5, q5])], [], (.tup [q86, q5]), []⟩,
  ⟨[q88, (.agg [q5, q5, q5])], [], q90, []⟩]
theorem esEnA1a3_made : madeE tbu (callM tbu msEnA1 100) hp 165 esEnA1a3 = true := by kernel_rfl
theorem esEnA1a3_ok {w0 : World} (hl : laidMetH Tryz.prog Rows.axesKnownRow.laid w0) : EsOk tbu w0 hp 165 esEnA1a3 := madeE_ok (tbu_ok w0) (msEnA1_ok hl) (start_ok hl) esEnA1a3_made
/-- circa/fillings.fits: 869 operations. -/
noncomputable def esEnA1a4 : List Entry := [⟨[q65, (.v (.int .i64 (12)))], [], (.slU 15 0 1 0), [(.rowU [q4] 1 3)]⟩,
  ⟨[q65, q67], [], (.slU 15 0 1 0), [(.rowU [q4] 1 3)]⟩,
  ⟨[q72, q67], [], (.slU 15 0 1 0), [(.rowU [q13] 1 3)]⟩]
theorem esEnA1a4_made : madeE tbu (callM tbu msEnA1 100) hp 193 esEnA1a4 = true := by kernel_rfl
theorem esEnA1a4_ok {w0 : World} (hl : laidMetH Tryz.prog Rows.axesKnownRow.laid w0) : EsOk tbu w0 hp 193 esEnA1a4 := madeE_ok (tbu_ok w0) (msEnA1_ok hl) (start_ok hl) esEnA1a4_made
/-- circa/years.Of: 551 operations. -/
noncomputable def esEnA1a5 : List Entry := [⟨[q55], [], (.tup [(.v (.int .i64 (2004))), q5]), []⟩]
theorem esEnA1a5_made : madeE tbu (callM tbu msEnA1 100) hp 223 esEnA1a5 = true := by kernel_rfl
theorem esEnA1a5_ok {w0 : World} (hl : laidMetH Tryz.prog Rows.axesKnownRow.laid w0) : EsOk tbu w0 hp 223 esEnA1a5 := madeE_ok (tbu_ok w0) (msEnA1_ok hl) (start_ok hl) esEnA1a5_made
/-- circa/marks.Spread: 252 operations. -/
noncomputable def esEnA1a6 : List Entry := [⟨[q3, q3, q4], [], (.tup [q3, q5]), []⟩,
  ⟨[q3, q3, q63], [], (.tup [q3, q5]), []⟩]
theorem esEnA1a6_made : madeE tbu (callM tbu msEnA1 100) hp 247 esEnA1a6 = true := by kernel_rfl
theorem esEnA1a6_ok {w0 : World} (hl : laidMetH Tryz.prog Rows.axesKnownRow.laid w0) : EsOk tbu w0 hp 247 esEnA1a6 := madeE_ok (tbu_ok w0) (msEnA1_ok hl) (start_ok hl) esEnA1a6_made
/-- circa/years.Leap: 55 operations. -/
noncomputable def esEnA1a7 : List Entry := [⟨[q5], [], (.tup [q6, q5]), []⟩]
theorem esEnA1a7_made : madeE tbu (callM tbu msEnA1 100) hp 351 esEnA1a7 = true := by kernel_rfl
theorem esEnA1a7_ok {w0 : World} (hl : laidMetH Tryz.prog Rows.axesKnownRow.laid w0) : EsOk tbu w0 hp 351 esEnA1a7 := madeE_ok (tbu_ok w0) (msEnA1_ok hl) (start_ok hl) esEnA1a7_made
end Ev
end Go.Proofs.YtmebmfgmopdieaaGreatDoor

