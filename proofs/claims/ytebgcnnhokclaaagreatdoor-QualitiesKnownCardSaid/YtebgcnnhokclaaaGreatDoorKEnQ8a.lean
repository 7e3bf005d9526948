/- Calls that were reckoned, level 8 (printed by genents.py). -/
import Derived.Test.YtebgcnnhokclaaaGreatDoorKEnQT8
/-! Calls that were reckoned, level 8 (printed by genents.py). -/
set_option linter.unusedVariables false
set_option maxRecDepth 1000000
namespace Go.Proofs.YtebgcnnhokclaaaGreatDoor
open Go.RowKit
namespace Ev
/-- circa/qualities.Lay: 24852 operations. -/
noncomputable def esEnQ8a0 : List Entry := [⟨[q26, (.sl 14 0 3 3)], [(.row [q4, q4, q0, q4, q11, q0, q4, q12, q0] 46)], (.tup [q26, q4]), []⟩,
  ⟨[q26, (.sl 14 0 3 3)], [(.row [q4, q4, q23, q4, q11, q0, q4, q12, q0] 46)], (.tup [q30, q4]), []⟩,
  ⟨[q26, (.sl 14 0 3 3)], [(.row [q4, q4, q28, q4, q11, q0, q4, q12, q0] 46)], (.tup [q35, q4]), []⟩,
  ⟨[q26, (.sl 14 0 3 3)], [(.row [q4, q4, q29, q4, q11, q0, q4, q12, q0] 46)], (.tup [q40, q4]), []⟩,
  ⟨[q26, (.sl 14 0 3 3)], [(.row [q4, q4, q0, q4, q11, q23, q4, q12, q0] 46)], (.tup [q45, q4]), []⟩,
  ⟨[q26, (.sl 14 0 3 3)], [(.row [q4, q4, q23, q4, q11, q23, q4, q12, q0] 46)], (.tup [q50, q4]), []⟩,
  ⟨[q26, (.sl 14 0 3 3)], [(.row [q4, q4, q28, q4, q11, q23, q4, q12, q0] 46)], (.tup [q55, q4]), []⟩,
  ⟨[q26, (.sl 14 0 3 3)], [(.row [q4, q4, q29, q4, q11, q23, q4, q12, q0] 46)], (.tup [q60, q4]), []⟩,
  ⟨[q26, (.sl 14 0 3 3)], [(.row [q4, q4, q0, q4, q11, q28, q4, q12, q0] 46)], (.tup [q65, q4]), []⟩,
  ⟨[q26, (.sl 14 0 3 3)], [(.row [q4, q4, q23, q4, q11, q28, q4, q12, q0] 46)], (.tup [q70, q4]), []⟩,
  ⟨[q26, (.sl 14 0 3 3)], [(.row [q4, q4, q28, q4, q11, q28, q4, q12, q0] 46)], (.tup [q75, q4]), []⟩,
  ⟨[q26, (.sl 14 0 3 3)], [(.row [q4, q4, q29, q4, q11, q28, q4, q12, q0] 46)], (.tup [q80, q4]), []⟩,
  ⟨[q26, (.sl 14 0 3 3)], [(.row [q4, q4, q0, q4, q11, q29, q4, q12, q0] 46)], (.tup [q85, q4]), []⟩,
  ⟨[q26, (.sl 14 0 3 3)], [(.row [q4, q4, q23, q4, q11, q29, q4, q12, q0] 46)], (.tup [q90, q4]), []⟩,
  ⟨[q26, (.sl 14 0 3 3)], [(.row [q4, q4, q28, q4, q11, q29, q4, q12, q0] 46)], (.tup [q95, q4]), []⟩,
  ⟨[q26, (.sl 14 0 3 3)], [(.row [q4, q4, q29, q4, q11, q29, q4, q12, q0] 46)], (.tup [q100, q4]), []⟩,
  ⟨[q26, (.sl 14 0 3 3)], [(.row [q4, q4, q0, q4, q11, q0, q4, q12, q23] 46)], (.tup [q105, q4]), []⟩,
  ⟨[q26, (.sl 14 0 3 3)], [(.row [q4, q4, q23, q4, q11, q0, q4, q12, q23] 46)], (.tup [q110, q4]), []⟩,
  ⟨[q26, (.sl 14 0 3 3)], [(.row [q4, q4, q28, q4, q11, q0, q4, q12, q23] 46)], (.tup [q115, q4]), []⟩,
  ⟨[q26, (.sl 14 0 3 3)], [(.row [q4, q4, q29, q4, q11, q0, q4, q12, q23] 46)], (.tup [q120, q4]), []⟩,
  ⟨[q26, (.sl 14 0 3 3)], [(.row [q4, q4, q0, q4, q11, q23, q4, q12, q23] 46)], (.tup [q125, q4]), []⟩,
  ⟨[q26, (.sl 14 0 3 3)], [(.row [q4, q4, q23, q4, q11, q23, q4, q12, q23] 46)], (.tup [q130, q4]), []⟩,
  ⟨[q26, (.sl 14 0 3 3)], [(.row [q4, q4, q28, q4, q11, q23, q4, q12, q23] 46)], (.tup [q134, q4]), []⟩,
  ⟨[q26, (.sl 14 0 3 3)], [(.row [q4, q4, q29, q4, q11, q23, q4, q12, q23] 46)], (.tup [q139, q4]), []⟩,
  ⟨[q26, (.sl 14 0 3 3)], [(.row [q4, q4, q0, q4, q11, q28, q4, q12, q23] 46)], (.tup [q144, q4]), []⟩,
  ⟨[q26, (.sl 14 0 3 3)], [(.row [q4, q4, q23, q4, q11, q28, q4, q12, q23] 46)], (.tup [q149, q4]), []⟩,
  ⟨[q26, (.sl 14 0 3 3)], [(.row [q4, q4, q28, q4, q11, q28, q4, q12, q23] 46)], (.tup [q154, q4]), []⟩,
  ⟨[q26, (.sl 14 0 3 3)], [(.row [q4, q4, q29, q4, q11, q28, q4, q12, q23] 46)], (.tup [q159, q4]), []⟩,
  ⟨[q26, (.sl 14 0 3 3)], [(.row [q4, q4, q0, q4, q11, q29, q4, q12, q23] 46)], (.tup [q164, q4]), []⟩,
  ⟨[q26, (.sl 14 0 3 3)], [(.row [q4, q4, q23, q4, q11, q29, q4, q12, q23] 46)], (.tup [q169, q4]), []⟩,
  ⟨[q26, (.sl 14 0 3 3)], [(.row [q4, q4, q28, q4, q11, q29, q4, q12, q23] 46)], (.tup [q174, q4]), []⟩,
  ⟨[q26, (.sl 14 0 3 3)], [(.row [q4, q4, q29, q4, q11, q29, q4, q12, q23] 46)], (.tup [q179, q4]), []⟩,
  ⟨[q26, (.sl 14 0 3 3)], [(.row [q4, q4, q0, q4, q11, q0, q4, q12, q28] 46)], (.tup [q184, q4]), []⟩,
  ⟨[q26, (.sl 14 0 3 3)], [(.row [q4, q4, q23, q4, q11, q0, q4, q12, q28] 46)], (.tup [q189, q4]), []⟩,
  ⟨[q26, (.sl 14 0 3 3)], [(.row [q4, q4, q28, q4, q11, q0, q4, q12, q28] 46)], (.tup [q194, q4]), []⟩,
  ⟨[q26, (.sl 14 0 3 3)], [(.row [q4, q4, q29, q4, q11, q0, q4, q12, q28] 46)], (.tup [q199, q4]), []⟩,
  ⟨[q26, (.sl 14 0 3 3)], [(.row [q4, q4, q0, q4, q11, q23, q4, q12, q28] 46)], (.tup [q204, q4]), []⟩,
  ⟨[q26, (.sl 14 0 3 3)], [(.row [q4, q4, q23, q4, q11, q23, q4, q12, q28] 46)], (.tup [q209, q4]), []⟩,
  ⟨[q26, (.sl 14 0 3 3)], [(.row [q4, q4, q28, q4, q11, q23, q4, q12, q28] 46)], (.tup [q214, q4]), []⟩,
  ⟨[q26, (.sl 14 0 3 3)], [(.row [q4, q4, q29, q4, q11, q23, q4, q12, q28] 46)], (.tup [q219, q4]), []⟩,
  ⟨[q26, (.sl 14 0 3 3)], [(.row [q4, q4, q0, q4, q11, q28, q4, q12, q28] 46)], (.tup [q224, q4]), []⟩,
  ⟨[q26, (.sl 14 0 3 3)], [(.row [q4, q4, q23, q4, q11, q28, q4, q12, q28] 46)], (.tup [q229, q4]), []⟩,
  ⟨[q26, (.sl 14 0 3 3)], [(.row [q4, q4, q28, q4, q11, q28, q4, q12, q28] 46)], (.tup [q234, q4]), []⟩,
  ⟨[q26, (.sl 14 0 3 3)], [(.row [q4, q4, q29, q4, q11, q28, q4, q12, q28] 46)], (.tup [q238, q4]), []⟩,
  ⟨[q26, (.sl 14 0 3 3)], [(.row [q4, q4, q0, q4, q11, q29, q4, q12, q28] 46)], (.tup [q243, q4]), []⟩,
  ⟨[q26, (.sl 14 0 3 3)], [(.row [q4, q4, q23, q4, q11, q29, q4, q12, q28] 46)], (.tup [q248, q4]), []⟩,
  ⟨[q26, (.sl 14 0 3 3)], [(.row [q4, q4, q28, q4, q11, q29, q4, q12, q28] 46)], (.tup [q253, q4]), []⟩,
  ⟨[q26, (.sl 14 0 3 3)], [(.row [q4, q4, q29, q4, q11, q29, q4, q12, q28] 46)], (.tup [q258, q4]), []⟩,
  ⟨[q26, (.sl 14 0 3 3)], [(.row [q4, q4, q0, q4, q11, q0, q4, q12, q29] 46)], (.tup [q263, q4]), []⟩,
  ⟨[q26, (.sl 14 0 3 3)], [(.row [q4, q4, q23, q4, q11, q0, q4, q12, q29] 46)], (.tup [q268, q4]), []⟩,
  ⟨[q26, (.sl 14 0 3 3)], [(.row [q4, q4, q28, q4, q11, q0, q4, q12, q29] 46)], (.tup [q273, q4]), []⟩,
  ⟨[q26, (.sl 14 0 3 3)], [(.row [q4, q4, q29, q4, q11, q0, q4, q12, q29] 46)], (.tup [q278, q4]), []⟩,
  ⟨[q26, (.sl 14 0 3 3)], [(.row [q4, q4, q0, q4, q11, q23, q4, q12, q29] 46)], (.tup [q283, q4]), []⟩,
  ⟨[q26, (.sl 14 0 3 3)], [(.row [q4, q4, q23, q4, q11, q23, q4, q12, q29] 46)], (.tup [q288, q4]), []⟩,
  ⟨[q26, (.sl 14 0 3 3)], [(.row [q4, q4, q28, q4, q11, q23, q4, q12, q29] 46)], (.tup [q293, q4]), []⟩,
  ⟨[q26, (.sl 14 0 3 3)], [(.row [q4, q4, q29, q4, q11, q23, q4, q12, q29] 46)], (.tup [q298, q4]), []⟩,
  ⟨[q26, (.sl 14 0 3 3)], [(.row [q4, q4, q0, q4, q11, q28, q4, q12, q29] 46)], (.tup [q303, q4]), []⟩]
theorem esEnQ8a0_made : madeE tbu (callM tbu msEnQ8 100) hp 15 esEnQ8a0 = true := by kernel_rfl
theorem esEnQ8a0_ok {w0 : World} (hl : laidMet Tryz.prog Rows.qualitiesKnownRow.laid w0) : EsOk tbu w0 hp 15 esEnQ8a0 := madeE_ok (tbu_ok w0) (msEnQ8_ok hl) (startOk hl lay_ok hp_eq) esEnQ8a0_made
/-- circa/qualities.Lay: 3052 operations. -/
noncomputable def esEnQ8a1 : List Entry := [⟨[q26, (.sl 14 0 3 3)], [(.row [q4, q4, q23, q4, q11, q28, q4, q12, q29] 46)], (.tup [q308, q4]), []⟩,
  ⟨[q26, (.sl 14 0 3 3)], [(.row [q4, q4, q28, q4, q11, q28, q4, q12, q29] 46)], (.tup [q313, q4]), []⟩,
  ⟨[q26, (.sl 14 0 3 3)], [(.row [q4, q4, q29, q4, q11, q28, q4, q12, q29] 46)], (.tup [q318, q4]), []⟩,
  ⟨[q26, (.sl 14 0 3 3)], [(.row [q4, q4, q0, q4, q11, q29, q4, q12, q29] 46)], (.tup [q323, q4]), []⟩,
  ⟨[q26, (.sl 14 0 3 3)], [(.row [q4, q4, q23, q4, q11, q29, q4, q12, q29] 46)], (.tup [q328, q4]), []⟩,
  ⟨[q26, (.sl 14 0 3 3)], [(.row [q4, q4, q28, q4, q11, q29, q4, q12, q29] 46)], (.tup [q333, q4]), []⟩,
  ⟨[q26, (.sl 14 0 3 3)], [(.row [q4, q4, q29, q4, q11, q29, q4, q12, q29] 46)], (.tup [q338, q4]), []⟩]
theorem esEnQ8a1_made : madeE tbu (callM tbu msEnQ8 100) hp 15 esEnQ8a1 = true := by kernel_rfl
theorem esEnQ8a1_ok {w0 : World} (hl : laidMet Tryz.prog Rows.qualitiesKnownRow.laid w0) : EsOk tbu w0 hp 15 esEnQ8a1 := madeE_ok (tbu_ok w0) (msEnQ8_ok hl) (startOk hl lay_ok hp_eq) esEnQ8a1_made
end Ev
end Go.Proofs.YtebgcnnhokclaaaGreatDoor

