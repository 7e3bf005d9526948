/- Calls that were reckoned, level 3 (printed by genents.py). -/
import Derived.Test.YtmebmfgmopdieaaGreatDoorKEnAT3
/-! Calls that were reckoned, level 3 (printed by genents.py). -/
set_option linter.unusedVariables false
set_option maxRecDepth 1000000
namespace Go.Proofs.YtmebmfgmopdieaaGreatDoor
open Go.RowKit
namespace Ev
/-- circa/parsers.Parse: 7304 operations. -/
noncomputable def esEnA3a0 : List Entry := [⟨[(.v (.string ⟨#[91, 46, 46, 50, 48, 48, 52, 93]⟩))], [], (.tup [q53, q13, q5, q5]), [(.rowU [q1, q1, q50, q5, q5, q9, q9, q0, q0, q0, q1, q1, q1, q9, q5, q5, q9, q9, q0, q0, q0] 21 123)]⟩,
  ⟨[q83], [], (.tup [q84, q4, q5, q5]), []⟩,
  ⟨[q64], [], (.tup [q89, q5, q5, q5]), []⟩]
theorem esEnA3a0_made : madeE tbu (callM tbu msEnA3 100) hp 44 esEnA3a0 = true := by kernel_rfl
theorem esEnA3a0_ok {w0 : World} (hl : laidMetH Tryz.prog Rows.axesKnownRow.laid w0) : EsOk tbu w0 hp 44 esEnA3a0 := madeE_ok (tbu_ok w0) (msEnA3_ok hl) (start_ok hl) esEnA3a0_made
/-- circa/exprs.Check: 840 operations. -/
noncomputable def esEnA3a1 : List Entry := [⟨[q53], [(.rowU [q1, q1, q50, q5, q5, q9, q9, q0, q0, q0, q1, q1, q1, q9, q5, q5, q9, q9, q0, q0, q0] 21 123)], q5, []⟩,
  ⟨[q84], [], q5, []⟩,
  ⟨[q89], [], q5, []⟩]
theorem esEnA3a1_made : madeE tbu (callM tbu msEnA3 100) hp 46 esEnA3a1 = true := by kernel_rfl
theorem esEnA3a1_ok {w0 : World} (hl : laidMetH Tryz.prog Rows.axesKnownRow.laid w0) : EsOk tbu w0 hp 46 esEnA3a1 := madeE_ok (tbu_ok w0) (msEnA3_ok hl) (start_ok hl) esEnA3a1_made
/-- circa/units.Precision: 50 operations. -/
noncomputable def esEnA3a2 : List Entry := [⟨[q51], [], q54, []⟩]
theorem esEnA3a2_made : madeE tbu (callM tbu msEnA3 100) hp 77 esEnA3a2 = true := by kernel_rfl
theorem esEnA3a2_ok {w0 : World} (hl : laidMetH Tryz.prog Rows.axesKnownRow.laid w0) : EsOk tbu w0 hp 77 esEnA3a2 := madeE_ok (tbu_ok w0) (msEnA3_ok hl) (start_ok hl) esEnA3a2_made
/-- circa/units.Of: 890 operations. -/
noncomputable def esEnA3a3 : List Entry := [⟨[q10], [], q20, []⟩,
  ⟨[q16], [], q22, []⟩,
  ⟨[q51], [], q56, []⟩,
  ⟨[q82], [], (.tup [q86, q5]), []⟩,
  ⟨[q88], [], q90, []⟩]
theorem esEnA3a3_made : madeE tbu (callM tbu msEnA3 100) hp 107 esEnA3a3 = true := by kernel_rfl
theorem esEnA3a3_ok {w0 : World} (hl : laidMetH Tryz.prog Rows.axesKnownRow.laid w0) : EsOk tbu w0 hp 107 esEnA3a3 := madeE_ok (tbu_ok w0) (msEnA3_ok hl) (start_ok hl) esEnA3a3_made
/-- circa/bounds.Check: 436 operations. -/
noncomputable def esEnA3a4 : List Entry := [⟨[q15], [], q5, []⟩,
  ⟨[q17], [], q5, []⟩,
  ⟨[q60], [], q5, []⟩,
  ⟨[q91], [], q5, []⟩]
theorem esEnA3a4_made : madeE tbu (callM tbu msEnA3 100) hp 137 esEnA3a4 = true := by kernel_rfl
theorem esEnA3a4_ok {w0 : World} (hl : laidMetH Tryz.prog Rows.axesKnownRow.laid w0) : EsOk tbu w0 hp 137 esEnA3a4 := madeE_ok (tbu_ok w0) (msEnA3_ok hl) (start_ok hl) esEnA3a4_made
/-- circa/bounds.Days: 1356 operations. -/
noncomputable def esEnA3a5 : List Entry := [⟨[q10], [], q20, []⟩,
  ⟨[q16], [], q22, []⟩]
theorem esEnA3a5_made : madeE tbu (callM tbu msEnA3 100) hp 141 esEnA3a5 = true := by kernel_rfl
theorem esEnA3a5_ok {w0 : World} (hl : laidMetH Tryz.prog Rows.axesKnownRow.laid w0) : EsOk tbu w0 hp 141 esEnA3a5 := madeE_ok (tbu_ok w0) (msEnA3_ok hl) (start_ok hl) esEnA3a5_made
/-- circa/units.unit: 602 operations. -/
noncomputable def esEnA3a6 : List Entry := [⟨[q66, (.agg [q5, q4, q4])], [], (.tup [(.agg [q19, q5, q19, q5]), q5]), []⟩,
  ⟨[q73, (.agg [q5, q4, q13])], [], (.tup [(.agg [q19, q4, q19, q4]), q5]), []⟩]
theorem esEnA3a6_made : madeE tbu (callM tbu msEnA3 100) hp 165 esEnA3a6 = true := by kernel_rfl
theorem esEnA3a6_ok {w0 : World} (hl : laidMetH Tryz.prog Rows.axesKnownRow.laid w0) : EsOk tbu w0 hp 165 esEnA3a6 := madeE_ok (tbu_ok w0) (msEnA3_ok hl) (start_ok hl) esEnA3a6_made
/-- circa/months.Len: 65 operations. -/
noncomputable def esEnA3a7 : List Entry := [⟨[q5, q4], [], (.tup [q67, q5]), []⟩]
theorem esEnA3a7_made : madeE tbu (callM tbu msEnA3 100) hp 262 esEnA3a7 = true := by kernel_rfl
theorem esEnA3a7_ok {w0 : World} (hl : laidMetH Tryz.prog Rows.axesKnownRow.laid w0) : EsOk tbu w0 hp 262 esEnA3a7 := madeE_ok (tbu_ok w0) (msEnA3_ok hl) (start_ok hl) esEnA3a7_made
end Ev
end Go.Proofs.YtmebmfgmopdieaaGreatDoor

