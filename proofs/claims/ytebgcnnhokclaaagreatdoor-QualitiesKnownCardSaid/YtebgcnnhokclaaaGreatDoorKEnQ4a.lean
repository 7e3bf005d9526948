/- Calls that were reckoned, level 4 (printed by genents.py). -/
import Derived.Test.YtebgcnnhokclaaaGreatDoorKEnQT4
/-! Calls that were reckoned, level 4 (printed by genents.py). -/
set_option linter.unusedVariables false
set_option maxRecDepth 1000000
namespace Go.Proofs.YtebgcnnhokclaaaGreatDoor
open Go.RowKit
namespace Ev
/-- circa/qualities.Where: 988 operations. -/
noncomputable def esEnQ4a0 : List Entry := [⟨[q344], [], q345, [(.rowU [q4, q4, q23, q4, q11, q0] 3 46)]⟩,
  ⟨[q349], [], q345, [(.rowU [q4, q4, q23, q4, q11, q23] 3 46)]⟩,
  ⟨[q351], [], q345, [(.rowU [q4, q4, q0, q4, q11, q0] 3 46)]⟩,
  ⟨[q354], [], q345, [(.rowU [q4, q4, q29, q4, q11, q29] 3 46)]⟩,
  ⟨[q359], [], q27, [(.rowU [q4, q4, q23, q11, q4, q0, q11, q11, q28] 3 46)]⟩]
theorem esEnQ4a0_made : madeE tbu (callM tbu msEnQ4 100) hp 7 esEnQ4a0 = true := by kernel_rfl
theorem esEnQ4a0_ok {w0 : World} (hl : laidMet Tryz.prog Rows.qualitiesKnownRow.laid w0) : EsOk tbu w0 hp 7 esEnQ4a0 := madeE_ok (tbu_ok w0) (msEnQ4_ok hl) (startOk hl lay_ok hp_eq) esEnQ4a0_made
/-- circa/circalaw35.read: 322 operations. -/
noncomputable def esEnQ4a1 : List Entry := [⟨[q343], [], q344, []⟩,
  ⟨[q348], [], q349, []⟩,
  ⟨[q347], [], q351, []⟩,
  ⟨[q353], [], q354, []⟩,
  ⟨[(.v (.string ⟨#[50, 48, 48, 52, 63, 47, 50, 48, 48, 53, 45, 126, 48, 50]⟩))], [], q359, []⟩,
  ⟨[q361], [], q362, []⟩,
  ⟨[q363], [], q344, []⟩]
theorem esEnQ4a1_made : madeE tbu (callM tbu msEnQ4 100) hp 14 esEnQ4a1 = true := by kernel_rfl
theorem esEnQ4a1_ok {w0 : World} (hl : laidMet Tryz.prog Rows.qualitiesKnownRow.laid w0) : EsOk tbu w0 hp 14 esEnQ4a1 := madeE_ok (tbu_ok w0) (msEnQ4_ok hl) (startOk hl lay_ok hp_eq) esEnQ4a1_made
/-- circa/printers.Format: 174 operations. -/
noncomputable def esEnQ4a2 : List Entry := [⟨[q351], [], (.tup [q347, q4]), []⟩,
  ⟨[q362], [], q364, []⟩]
theorem esEnQ4a2_made : madeE tbu (callM tbu msEnQ4 100) hp 16 esEnQ4a2 = true := by kernel_rfl
theorem esEnQ4a2_ok {w0 : World} (hl : laidMet Tryz.prog Rows.qualitiesKnownRow.laid w0) : EsOk tbu w0 hp 16 esEnQ4a2 := madeE_ok (tbu_ok w0) (msEnQ4_ok hl) (startOk hl lay_ok hp_eq) esEnQ4a2_made
/-- (circa/fillings.form).seek: 9792 operations. -/
noncomputable def esEnQ4a3 : List Entry := [⟨[q14, q19, q10], [(.rowU [q13] 1 3), (.rowU [q11] 1 3)], q20, []⟩,
  ⟨[q33, q19, q10], [(.rowU [q13] 1 3), (.rowU [q11] 1 3)], q20, []⟩,
  ⟨[q38, q19, q10], [(.rowU [q13] 1 3), (.rowU [q11] 1 3)], q20, []⟩,
  ⟨[q43, q19, q10], [(.rowU [q13] 1 3), (.rowU [q11] 1 3)], q20, []⟩,
  ⟨[q48, q19, q10], [(.rowU [q13] 1 3), (.rowU [q11] 1 3)], q20, []⟩,
  ⟨[q53, q19, q10], [(.rowU [q13] 1 3), (.rowU [q11] 1 3)], q20, []⟩,
  ⟨[q58, q19, q10], [(.rowU [q13] 1 3), (.rowU [q11] 1 3)], q20, []⟩,
  ⟨[q63, q19, q10], [(.rowU [q13] 1 3), (.rowU [q11] 1 3)], q20, []⟩,
  ⟨[q68, q19, q10], [(.rowU [q13] 1 3), (.rowU [q11] 1 3)], q20, []⟩,
  ⟨[q73, q19, q10], [(.rowU [q13] 1 3), (.rowU [q11] 1 3)], q20, []⟩,
  ⟨[q78, q19, q10], [(.rowU [q13] 1 3), (.rowU [q11] 1 3)], q20, []⟩,
  ⟨[q83, q19, q10], [(.rowU [q13] 1 3), (.rowU [q11] 1 3)], q20, []⟩,
  ⟨[q88, q19, q10], [(.rowU [q13] 1 3), (.rowU [q11] 1 3)], q20, []⟩,
  ⟨[q93, q19, q10], [(.rowU [q13] 1 3), (.rowU [q11] 1 3)], q20, []⟩,
  ⟨[q98, q19, q10], [(.rowU [q13] 1 3), (.rowU [q11] 1 3)], q20, []⟩,
  ⟨[q103, q19, q10], [(.rowU [q13] 1 3), (.rowU [q11] 1 3)], q20, []⟩,
  ⟨[q108, q19, q10], [(.rowU [q13] 1 3), (.rowU [q11] 1 3)], q20, []⟩,
  ⟨[q113, q19, q10], [(.rowU [q13] 1 3), (.rowU [q11] 1 3)], q20, []⟩,
  ⟨[q118, q19, q10], [(.rowU [q13] 1 3), (.rowU [q11] 1 3)], q20, []⟩,
  ⟨[q123, q19, q10], [(.rowU [q13] 1 3), (.rowU [q11] 1 3)], q20, []⟩,
  ⟨[q128, q19, q10], [(.rowU [q13] 1 3), (.rowU [q11] 1 3)], q20, []⟩,
  ⟨[q132, q19, q10], [(.rowU [q13] 1 3), (.rowU [q11] 1 3)], q20, []⟩,
  ⟨[q137, q19, q10], [(.rowU [q13] 1 3), (.rowU [q11] 1 3)], q20, []⟩,
  ⟨[q142, q19, q10], [(.rowU [q13] 1 3), (.rowU [q11] 1 3)], q20, []⟩,
  ⟨[q147, q19, q10], [(.rowU [q13] 1 3), (.rowU [q11] 1 3)], q20, []⟩,
  ⟨[q152, q19, q10], [(.rowU [q13] 1 3), (.rowU [q11] 1 3)], q20, []⟩,
  ⟨[q157, q19, q10], [(.rowU [q13] 1 3), (.rowU [q11] 1 3)], q20, []⟩,
  ⟨[q162, q19, q10], [(.rowU [q13] 1 3), (.rowU [q11] 1 3)], q20, []⟩,
  ⟨[q167, q19, q10], [(.rowU [q13] 1 3), (.rowU [q11] 1 3)], q20, []⟩,
  ⟨[q172, q19, q10], [(.rowU [q13] 1 3), (.rowU [q11] 1 3)], q20, []⟩,
  ⟨[q177, q19, q10], [(.rowU [q13] 1 3), (.rowU [q11] 1 3)], q20, []⟩,
  ⟨[q182, q19, q10], [(.rowU [q13] 1 3), (.rowU [q11] 1 3)], q20, []⟩,
  ⟨[q187, q19, q10], [(.rowU [q13] 1 3), (.rowU [q11] 1 3)], q20, []⟩,
  ⟨[q192, q19, q10], [(.rowU [q13] 1 3), (.rowU [q11] 1 3)], q20, []⟩,
  ⟨[q197, q19, q10], [(.rowU [q13] 1 3), (.rowU [q11] 1 3)], q20, []⟩,
  ⟨[q202, q19, q10], [(.rowU [q13] 1 3), (.rowU [q11] 1 3)], q20, []⟩,
  ⟨[q207, q19, q10], [(.rowU [q13] 1 3), (.rowU [q11] 1 3)], q20, []⟩,
  ⟨[q212, q19, q10], [(.rowU [q13] 1 3), (.rowU [q11] 1 3)], q20, []⟩,
  ⟨[q217, q19, q10], [(.rowU [q13] 1 3), (.rowU [q11] 1 3)], q20, []⟩,
  ⟨[q222, q19, q10], [(.rowU [q13] 1 3), (.rowU [q11] 1 3)], q20, []⟩,
  ⟨[q227, q19, q10], [(.rowU [q13] 1 3), (.rowU [q11] 1 3)], q20, []⟩,
  ⟨[q232, q19, q10], [(.rowU [q13] 1 3), (.rowU [q11] 1 3)], q20, []⟩,
  ⟨[q236, q19, q10], [(.rowU [q13] 1 3), (.rowU [q11] 1 3)], q20, []⟩,
  ⟨[q241, q19, q10], [(.rowU [q13] 1 3), (.rowU [q11] 1 3)], q20, []⟩,
  ⟨[q246, q19, q10], [(.rowU [q13] 1 3), (.rowU [q11] 1 3)], q20, []⟩,
  ⟨[q251, q19, q10], [(.rowU [q13] 1 3), (.rowU [q11] 1 3)], q20, []⟩,
  ⟨[q256, q19, q10], [(.rowU [q13] 1 3), (.rowU [q11] 1 3)], q20, []⟩,
  ⟨[q261, q19, q10], [(.rowU [q13] 1 3), (.rowU [q11] 1 3)], q20, []⟩,
  ⟨[q266, q19, q10], [(.rowU [q13] 1 3), (.rowU [q11] 1 3)], q20, []⟩,
  ⟨[q271, q19, q10], [(.rowU [q13] 1 3), (.rowU [q11] 1 3)], q20, []⟩,
  ⟨[q276, q19, q10], [(.rowU [q13] 1 3), (.rowU [q11] 1 3)], q20, []⟩,
  ⟨[q281, q19, q10], [(.rowU [q13] 1 3), (.rowU [q11] 1 3)], q20, []⟩,
  ⟨[q286, q19, q10], [(.rowU [q13] 1 3), (.rowU [q11] 1 3)], q20, []⟩,
  ⟨[q291, q19, q10], [(.rowU [q13] 1 3), (.rowU [q11] 1 3)], q20, []⟩,
  ⟨[q296, q19, q10], [(.rowU [q13] 1 3), (.rowU [q11] 1 3)], q20, []⟩,
  ⟨[q301, q19, q10], [(.rowU [q13] 1 3), (.rowU [q11] 1 3)], q20, []⟩,
  ⟨[q306, q19, q10], [(.rowU [q13] 1 3), (.rowU [q11] 1 3)], q20, []⟩,
  ⟨[q311, q19, q10], [(.rowU [q13] 1 3), (.rowU [q11] 1 3)], q20, []⟩,
  ⟨[q316, q19, q10], [(.rowU [q13] 1 3), (.rowU [q11] 1 3)], q20, []⟩,
  ⟨[q321, q19, q10], [(.rowU [q13] 1 3), (.rowU [q11] 1 3)], q20, []⟩,
  ⟨[q326, q19, q10], [(.rowU [q13] 1 3), (.rowU [q11] 1 3)], q20, []⟩,
  ⟨[q331, q19, q10], [(.rowU [q13] 1 3), (.rowU [q11] 1 3)], q20, []⟩,
  ⟨[q336, q19, q10], [(.rowU [q13] 1 3), (.rowU [q11] 1 3)], q20, []⟩,
  ⟨[q340, q19, q10], [(.rowU [q13] 1 3), (.rowU [q11] 1 3)], q20, []⟩]
theorem esEnQ4a3_made : madeE tbu (callM tbu msEnQ4 100) hp 98 esEnQ4a3 = true := by kernel_rfl
theorem esEnQ4a3_ok {w0 : World} (hl : laidMet Tryz.prog Rows.qualitiesKnownRow.laid w0) : EsOk tbu w0 hp 98 esEnQ4a3 := madeE_ok (tbu_ok w0) (msEnQ4_ok hl) (startOk hl lay_ok hp_eq) esEnQ4a3_made
end Ev
end Go.Proofs.YtebgcnnhokclaaaGreatDoor

