/- Calls that were reckoned, level 5 (printed by genents.py). -/
import Derived.Test.YtebgcnnhokclaaaGreatDoorKEnQT5
/-! Calls that were reckoned, level 5 (printed by genents.py). -/
set_option linter.unusedVariables false
set_option maxRecDepth 1000000
namespace Go.Proofs.YtebgcnnhokclaaaGreatDoor
open Go.RowKit
namespace Ev
/-- circa/circalaw35.lives: 1688 operations. -/
noncomputable def esEnQ5a0 : List Entry := [⟨[], [], q10, []⟩]
theorem esEnQ5a0_made : madeE tbu (callM tbu msEnQ5 100) hp 12 esEnQ5a0 = true := by kernel_rfl
theorem esEnQ5a0_ok {w0 : World} (hl : laidMet Tryz.prog Rows.qualitiesKnownRow.laid w0) : EsOk tbu w0 hp 12 esEnQ5a0 := madeE_ok (tbu_ok w0) (msEnQ5_ok hl) (startOk hl lay_ok hp_eq) esEnQ5a0_made
/-- circa/fillings.Check: 3584 operations. -/
noncomputable def esEnQ5a1 : List Entry := [⟨[q8], [], q4, []⟩,
  ⟨[q31], [], q4, []⟩,
  ⟨[q36], [], q4, []⟩,
  ⟨[q41], [], q4, []⟩,
  ⟨[q46], [], q4, []⟩,
  ⟨[q51], [], q4, []⟩,
  ⟨[q56], [], q4, []⟩,
  ⟨[q61], [], q4, []⟩,
  ⟨[q66], [], q4, []⟩,
  ⟨[q71], [], q4, []⟩,
  ⟨[q76], [], q4, []⟩,
  ⟨[q81], [], q4, []⟩,
  ⟨[q86], [], q4, []⟩,
  ⟨[q91], [], q4, []⟩,
  ⟨[q96], [], q4, []⟩,
  ⟨[q101], [], q4, []⟩,
  ⟨[q106], [], q4, []⟩,
  ⟨[q111], [], q4, []⟩,
  ⟨[q116], [], q4, []⟩,
  ⟨[q121], [], q4, []⟩,
  ⟨[q126], [], q4, []⟩,
  ⟨[q131], [], q4, []⟩,
  ⟨[q135], [], q4, []⟩,
  ⟨[q140], [], q4, []⟩,
  ⟨[q145], [], q4, []⟩,
  ⟨[q150], [], q4, []⟩,
  ⟨[q155], [], q4, []⟩,
  ⟨[q160], [], q4, []⟩,
  ⟨[q165], [], q4, []⟩,
  ⟨[q170], [], q4, []⟩,
  ⟨[q175], [], q4, []⟩,
  ⟨[q180], [], q4, []⟩,
  ⟨[q185], [], q4, []⟩,
  ⟨[q190], [], q4, []⟩,
  ⟨[q195], [], q4, []⟩,
  ⟨[q200], [], q4, []⟩,
  ⟨[q205], [], q4, []⟩,
  ⟨[q210], [], q4, []⟩,
  ⟨[q215], [], q4, []⟩,
  ⟨[q220], [], q4, []⟩,
  ⟨[q225], [], q4, []⟩,
  ⟨[q230], [], q4, []⟩,
  ⟨[q235], [], q4, []⟩,
  ⟨[q239], [], q4, []⟩,
  ⟨[q244], [], q4, []⟩,
  ⟨[q249], [], q4, []⟩,
  ⟨[q254], [], q4, []⟩,
  ⟨[q259], [], q4, []⟩,
  ⟨[q264], [], q4, []⟩,
  ⟨[q269], [], q4, []⟩,
  ⟨[q274], [], q4, []⟩,
  ⟨[q279], [], q4, []⟩,
  ⟨[q284], [], q4, []⟩,
  ⟨[q289], [], q4, []⟩,
  ⟨[q294], [], q4, []⟩,
  ⟨[q299], [], q4, []⟩,
  ⟨[q304], [], q4, []⟩,
  ⟨[q309], [], q4, []⟩,
  ⟨[q314], [], q4, []⟩,
  ⟨[q319], [], q4, []⟩,
  ⟨[q324], [], q4, []⟩,
  ⟨[q329], [], q4, []⟩,
  ⟨[q334], [], q4, []⟩,
  ⟨[q339], [], q4, []⟩]
theorem esEnQ5a1_made : madeE tbu (callM tbu msEnQ5 100) hp 61 esEnQ5a1 = true := by kernel_rfl
theorem esEnQ5a1_ok {w0 : World} (hl : laidMet Tryz.prog Rows.qualitiesKnownRow.laid w0) : EsOk tbu w0 hp 61 esEnQ5a1 := madeE_ok (tbu_ok w0) (msEnQ5_ok hl) (startOk hl lay_ok hp_eq) esEnQ5a1_made
end Ev
end Go.Proofs.YtebgcnnhokclaaaGreatDoor

