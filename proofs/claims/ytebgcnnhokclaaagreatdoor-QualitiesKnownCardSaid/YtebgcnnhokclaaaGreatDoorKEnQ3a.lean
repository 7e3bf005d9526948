/- Calls that were reckoned, level 3 (printed by genents.py). -/
import Derived.Test.YtebgcnnhokclaaaGreatDoorKEnQT3
/-! Calls that were reckoned, level 3 (printed by genents.py). -/
set_option linter.unusedVariables false
set_option maxRecDepth 1000000
namespace Go.Proofs.YtebgcnnhokclaaaGreatDoor
open Go.RowKit
namespace Ev
/-- circa/exprs.Check: 2495 operations. -/
noncomputable def esEnQ3a0 : List Entry := [⟨[q344], [], q4, []⟩,
  ⟨[q349], [], q4, []⟩,
  ⟨[q351], [], q4, []⟩,
  ⟨[q354], [], q4, []⟩,
  ⟨[q359], [], q4, []⟩,
  ⟨[q362], [], q4, []⟩]
theorem esEnQ3a0_made : madeE tbu (callM tbu msEnQ3 100) hp 19 esEnQ3a0 = true := by kernel_rfl
theorem esEnQ3a0_ok {w0 : World} (hl : laidMet Tryz.prog Rows.qualitiesKnownRow.laid w0) : EsOk tbu w0 hp 19 esEnQ3a0 := madeE_ok (tbu_ok w0) (msEnQ3_ok hl) (startOk hl lay_ok hp_eq) esEnQ3a0_made
/-- circa/parsers.Parse: 17683 operations. -/
noncomputable def esEnQ3a1 : List Entry := [⟨[q343], [], (.tup [q344, q12, q4, q4]), []⟩,
  ⟨[q348], [], (.tup [q349, q11, q4, q4]), []⟩,
  ⟨[q347], [], (.tup [q351, q4, q4, q4]), []⟩,
  ⟨[q353], [], (.tup [q354, q11, q4, q4]), []⟩,
  ⟨[(.v (.string ⟨#[50, 48, 48, 52, 63, 47, 50, 48, 48, 53, 45, 126, 48, 50]⟩))], [], (.tup [q359, q12, q4, q4]), []⟩,
  ⟨[q361], [], (.tup [q362, q12, q4, q4]), []⟩,
  ⟨[q363], [], (.tup [q344, q12, q4, q4]), []⟩]
theorem esEnQ3a1_made : madeE tbu (callM tbu msEnQ3 100) hp 34 esEnQ3a1 = true := by kernel_rfl
theorem esEnQ3a1_ok {w0 : World} (hl : laidMet Tryz.prog Rows.qualitiesKnownRow.laid w0) : EsOk tbu w0 hp 34 esEnQ3a1 := madeE_ok (tbu_ok w0) (msEnQ3_ok hl) (startOk hl lay_ok hp_eq) esEnQ3a1_made
/-- circa/months.Len: 65 operations. -/
noncomputable def esEnQ3a2 : List Entry := [⟨[q15, q13], [], (.tup [(.v (.int .i64 (30))), q4]), []⟩]
theorem esEnQ3a2_made : madeE tbu (callM tbu msEnQ3 100) hp 180 esEnQ3a2 = true := by kernel_rfl
theorem esEnQ3a2_ok {w0 : World} (hl : laidMet Tryz.prog Rows.qualitiesKnownRow.laid w0) : EsOk tbu w0 hp 180 esEnQ3a2 := madeE_ok (tbu_ok w0) (msEnQ3_ok hl) (startOk hl lay_ok hp_eq) esEnQ3a2_made
end Ev
end Go.Proofs.YtebgcnnhokclaaaGreatDoor

