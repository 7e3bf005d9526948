/- Calls that were reckoned, level 2 (printed by genents.py). -/
import Derived.Test.YtojihkdonkblaaaGreatDoorKEnOT2
/-! Calls that were reckoned, level 2 (printed by genents.py). -/
set_option linter.unusedVariables false
set_option maxRecDepth 1000000
namespace Go.Proofs.YtojihkdonkblaaaGreatDoor
open Go.RowKit
namespace Ev
/-- circa/fillings.Check: 756 operations. -/
noncomputable def esEnO2a0 : List Entry := [⟨[q9], [], q5, []⟩,
  ⟨[q18], [], q5, []⟩,
  ⟨[q24], [], q5, []⟩,
  ⟨[q49], [], q5, []⟩,
  ⟨[q52], [], q5, []⟩,
  ⟨[q56], [], q5, []⟩,
  ⟨[q59], [], q5, []⟩,
  ⟨[q69], [], q5, []⟩,
  ⟨[q73], [], q5, []⟩,
  ⟨[q75], [], q5, []⟩,
  ⟨[q78], [], q5, []⟩,
  ⟨[q81], [], q5, []⟩,
  ⟨[q85], [], q5, []⟩,
  ⟨[q94], [], q5, []⟩,
  ⟨[q150], [], q5, []⟩,
  ⟨[q154], [], q5, []⟩,
  ⟨[q159], [], q5, []⟩,
  ⟨[q166], [], q5, []⟩]
theorem esEnO2a0_made : madeE tbu (callM tbu msEnO2 100) hp 55 esEnO2a0 = true := by kernel_rfl
theorem esEnO2a0_ok {w0 : World} (hl : laidMet Tryz.prog Rows.ordersKnownRow.laid w0) : EsOk tbu w0 hp 55 esEnO2a0 := madeE_ok (tbu_ok w0) (msEnO2_ok hl) (startOk hl lay_ok hp_eq) esEnO2a0_made
/-- circa/months.length: 1421 operations. -/
noncomputable def esEnO2a1 : List Entry := [⟨[q43, q4], [], q30, []⟩,
  ⟨[q5, q4], [], q30, []⟩,
  ⟨[q91, q22], [], q40, []⟩,
  ⟨[q134, q4], [], q30, []⟩,
  ⟨[q91, q4], [], q30, []⟩,
  ⟨[q169, q4], [], q30, []⟩,
  ⟨[q169, q22], [], q40, []⟩,
  ⟨[q169, q26], [], q30, []⟩,
  ⟨[q169, q31], [], q41, []⟩,
  ⟨[q169, q32], [], q30, []⟩,
  ⟨[q169, q33], [], q41, []⟩,
  ⟨[q169, q34], [], q30, []⟩,
  ⟨[q169, q35], [], q30, []⟩,
  ⟨[q169, q36], [], q41, []⟩,
  ⟨[q169, q37], [], q30, []⟩,
  ⟨[q169, q38], [], q41, []⟩,
  ⟨[q169, q29], [], q30, []⟩,
  ⟨[q45, q29], [], q30, []⟩,
  ⟨[q45, q4], [], q30, []⟩,
  ⟨[q45, q22], [], q40, []⟩,
  ⟨[q45, q26], [], q30, []⟩,
  ⟨[q45, q31], [], q41, []⟩,
  ⟨[q45, q32], [], q30, []⟩,
  ⟨[q45, q33], [], q41, []⟩,
  ⟨[q45, q34], [], q30, []⟩,
  ⟨[q45, q35], [], q30, []⟩,
  ⟨[q45, q36], [], q41, []⟩,
  ⟨[q45, q37], [], q30, []⟩,
  ⟨[q45, q38], [], q41, []⟩]
theorem esEnO2a1_made : madeE tbu (callM tbu msEnO2 100) hp 79 esEnO2a1 = true := by kernel_rfl
theorem esEnO2a1_ok {w0 : World} (hl : laidMet Tryz.prog Rows.ordersKnownRow.laid w0) : EsOk tbu w0 hp 79 esEnO2a1 := madeE_ok (tbu_ok w0) (msEnO2_ok hl) (startOk hl lay_ok hp_eq) esEnO2a1_made
/-- circa/fillings.of: 262 operations. -/
noncomputable def esEnO2a2 : List Entry := [⟨[q28], [], q42, [(.rowU [q4] 1 3), (.rowU [q4] 1 3)]⟩,
  ⟨[q62], [], q63, [(.rowU [q4] 1 3), (.rowU [q4] 1 3)]⟩,
  ⟨[q89], [], q90, [(.rowU [q22] 1 3), (.rowU [q40] 1 3)]⟩,
  ⟨[q78], [], q133, [(.rowU [q4] 1 3), (.row [q5] 3)]⟩]
theorem esEnO2a2_made : madeE tbu (callM tbu msEnO2 100) hp 91 esEnO2a2 = true := by kernel_rfl
theorem esEnO2a2_ok {w0 : World} (hl : laidMet Tryz.prog Rows.ordersKnownRow.laid w0) : EsOk tbu w0 hp 91 esEnO2a2 := madeE_ok (tbu_ok w0) (msEnO2_ok hl) (startOk hl lay_ok hp_eq) esEnO2a2_made
/-- (circa/fillings.form).year: 327 operations. -/
noncomputable def esEnO2a3 : List Entry := [⟨[q42, q44, q6], [(.rowU [q4] 1 3), (.rowU [q4] 1 3)], (.tup [q43, q6]), []⟩,
  ⟨[q63, q44, q6], [(.rowU [q4] 1 3), (.rowU [q4] 1 3)], q65, []⟩,
  ⟨[q90, q44, q6], [(.rowU [q22] 1 3), (.rowU [q40] 1 3)], (.tup [q91, q6]), []⟩]
theorem esEnO2a3_made : madeE tbu (callM tbu msEnO2 100) hp 140 esEnO2a3 = true := by kernel_rfl
theorem esEnO2a3_ok {w0 : World} (hl : laidMet Tryz.prog Rows.ordersKnownRow.laid w0) : EsOk tbu w0 hp 140 esEnO2a3 := madeE_ok (tbu_ok w0) (msEnO2_ok hl) (startOk hl lay_ok hp_eq) esEnO2a3_made
end Ev
end Go.Proofs.YtojihkdonkblaaaGreatDoor

