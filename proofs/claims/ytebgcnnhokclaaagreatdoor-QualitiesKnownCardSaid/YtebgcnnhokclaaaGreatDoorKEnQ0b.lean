/- Calls that were reckoned, level 0 (printed by genents.py). -/
import Derived.Test.YtebgcnnhokclaaaGreatDoorKEnQC
/-! Calls that were reckoned, level 0 (printed by genents.py). -/
set_option linter.unusedVariables false
set_option maxRecDepth 1000000
namespace Go.Proofs.YtebgcnnhokclaaaGreatDoor
open Go.RowKit
namespace Ev
/-- strings.Map: 1182 operations. -/
noncomputable def esEnQ0b0 : List Entry := [⟨[q21, q358], [], (.v (.string ⟨#[100, 100, 100, 100, 45, 126, 100, 100]⟩)), []⟩,
  ⟨[q21, q363], [], (.v (.string ⟨#[63, 100, 100, 100, 100, 45, 100, 100]⟩)), []⟩]
theorem esEnQ0b0_made : madeE tbu (callM tbu .nil 100) hp 218 esEnQ0b0 = true := by kernel_rfl
theorem esEnQ0b0_ok {w0 : World} (hl : laidMet Tryz.prog Rows.qualitiesKnownRow.laid w0) : EsOk tbu w0 hp 218 esEnQ0b0 := madeE_ok (tbu_ok w0) msOk_nil (startOk hl lay_ok hp_eq) esEnQ0b0_made
/-- circa/years.before: 564 operations. -/
noncomputable def esEnQ0b1 : List Entry := [⟨[q18], [], (.v (.int .i64 (487))), []⟩,
  ⟨[q15], [], (.v (.int .i64 (486))), []⟩,
  ⟨[(.v (.int .i64 (2006)))], [], (.v (.int .i64 (487))), []⟩]
theorem esEnQ0b1_made : madeE tbu (callM tbu .nil 100) hp 280 esEnQ0b1 = true := by kernel_rfl
theorem esEnQ0b1_ok {w0 : World} (hl : laidMet Tryz.prog Rows.qualitiesKnownRow.laid w0) : EsOk tbu w0 hp 280 esEnQ0b1 := madeE_ok (tbu_ok w0) msOk_nil (startOk hl lay_ok hp_eq) esEnQ0b1_made
end Ev
end Go.Proofs.YtebgcnnhokclaaaGreatDoor

