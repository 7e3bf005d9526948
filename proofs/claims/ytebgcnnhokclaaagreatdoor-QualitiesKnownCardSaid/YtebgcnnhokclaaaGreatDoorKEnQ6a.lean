/- Calls that were reckoned, level 6 (printed by genents.py). -/
import Derived.Test.YtebgcnnhokclaaaGreatDoorKEnQT6
/-! Calls that were reckoned, level 6 (printed by genents.py). -/
set_option linter.unusedVariables false
set_option maxRecDepth 1000000
namespace Go.Proofs.YtebgcnnhokclaaaGreatDoor
open Go.RowKit
namespace Ev
/-- circa/exprs.Check: 8320 operations. -/
noncomputable def esEnQ6a0 : List Entry := [⟨[q26], [], q4, []⟩,
  ⟨[q30], [], q4, []⟩,
  ⟨[q35], [], q4, []⟩,
  ⟨[q40], [], q4, []⟩,
  ⟨[q45], [], q4, []⟩,
  ⟨[q50], [], q4, []⟩,
  ⟨[q55], [], q4, []⟩,
  ⟨[q60], [], q4, []⟩,
  ⟨[q65], [], q4, []⟩,
  ⟨[q70], [], q4, []⟩,
  ⟨[q75], [], q4, []⟩,
  ⟨[q80], [], q4, []⟩,
  ⟨[q85], [], q4, []⟩,
  ⟨[q90], [], q4, []⟩,
  ⟨[q95], [], q4, []⟩,
  ⟨[q100], [], q4, []⟩,
  ⟨[q105], [], q4, []⟩,
  ⟨[q110], [], q4, []⟩,
  ⟨[q115], [], q4, []⟩,
  ⟨[q120], [], q4, []⟩,
  ⟨[q125], [], q4, []⟩,
  ⟨[q130], [], q4, []⟩,
  ⟨[q134], [], q4, []⟩,
  ⟨[q139], [], q4, []⟩,
  ⟨[q144], [], q4, []⟩,
  ⟨[q149], [], q4, []⟩,
  ⟨[q154], [], q4, []⟩,
  ⟨[q159], [], q4, []⟩,
  ⟨[q164], [], q4, []⟩,
  ⟨[q169], [], q4, []⟩,
  ⟨[q174], [], q4, []⟩,
  ⟨[q179], [], q4, []⟩,
  ⟨[q184], [], q4, []⟩,
  ⟨[q189], [], q4, []⟩,
  ⟨[q194], [], q4, []⟩,
  ⟨[q199], [], q4, []⟩,
  ⟨[q204], [], q4, []⟩,
  ⟨[q209], [], q4, []⟩,
  ⟨[q214], [], q4, []⟩,
  ⟨[q219], [], q4, []⟩,
  ⟨[q224], [], q4, []⟩,
  ⟨[q229], [], q4, []⟩,
  ⟨[q234], [], q4, []⟩,
  ⟨[q238], [], q4, []⟩,
  ⟨[q243], [], q4, []⟩,
  ⟨[q248], [], q4, []⟩,
  ⟨[q253], [], q4, []⟩,
  ⟨[q258], [], q4, []⟩,
  ⟨[q263], [], q4, []⟩,
  ⟨[q268], [], q4, []⟩,
  ⟨[q273], [], q4, []⟩,
  ⟨[q278], [], q4, []⟩,
  ⟨[q283], [], q4, []⟩,
  ⟨[q288], [], q4, []⟩,
  ⟨[q293], [], q4, []⟩,
  ⟨[q298], [], q4, []⟩,
  ⟨[q303], [], q4, []⟩,
  ⟨[q308], [], q4, []⟩,
  ⟨[q313], [], q4, []⟩,
  ⟨[q318], [], q4, []⟩,
  ⟨[q323], [], q4, []⟩,
  ⟨[q328], [], q4, []⟩,
  ⟨[q333], [], q4, []⟩,
  ⟨[q338], [], q4, []⟩]
theorem esEnQ6a0_made : madeE tbu (callM tbu msEnQ6 100) hp 19 esEnQ6a0 = true := by kernel_rfl
theorem esEnQ6a0_ok {w0 : World} (hl : laidMet Tryz.prog Rows.qualitiesKnownRow.laid w0) : EsOk tbu w0 hp 19 esEnQ6a0 := madeE_ok (tbu_ok w0) (msEnQ6_ok hl) (startOk hl lay_ok hp_eq) esEnQ6a0_made
/-- circa/parsers.Parse: 24479 operations. -/
noncomputable def esEnQ6a1 : List Entry := [⟨[q22], [], (.tup [q26, q4, q4, q4]), []⟩,
  ⟨[q34], [], (.tup [q30, q12, q4, q4]), []⟩,
  ⟨[q39], [], (.tup [q35, q12, q4, q4]), []⟩,
  ⟨[q44], [], (.tup [q40, q12, q4, q4]), []⟩,
  ⟨[q49], [], (.tup [q45, q12, q4, q4]), []⟩,
  ⟨[q54], [], (.tup [q50, q12, q4, q4]), []⟩,
  ⟨[q59], [], (.tup [q55, q12, q4, q4]), []⟩,
  ⟨[q64], [], (.tup [q60, q12, q4, q4]), []⟩,
  ⟨[q69], [], (.tup [q65, q12, q4, q4]), []⟩,
  ⟨[q74], [], (.tup [q70, q12, q4, q4]), []⟩,
  ⟨[q79], [], (.tup [q75, q12, q4, q4]), []⟩]
theorem esEnQ6a1_made : madeE tbu (callM tbu msEnQ6 100) hp 34 esEnQ6a1 = true := by kernel_rfl
theorem esEnQ6a1_ok {w0 : World} (hl : laidMet Tryz.prog Rows.qualitiesKnownRow.laid w0) : EsOk tbu w0 hp 34 esEnQ6a1 := madeE_ok (tbu_ok w0) (msEnQ6_ok hl) (startOk hl lay_ok hp_eq) esEnQ6a1_made
/-- circa/parsers.Parse: 24765 operations. -/
noncomputable def esEnQ6a2 : List Entry := [⟨[q84], [], (.tup [q80, q12, q4, q4]), []⟩,
  ⟨[q89], [], (.tup [q85, q12, q4, q4]), []⟩,
  ⟨[q94], [], (.tup [q90, q12, q4, q4]), []⟩,
  ⟨[q99], [], (.tup [q95, q12, q4, q4]), []⟩,
  ⟨[q104], [], (.tup [q100, q12, q4, q4]), []⟩,
  ⟨[q109], [], (.tup [q105, q12, q4, q4]), []⟩,
  ⟨[q114], [], (.tup [q110, q12, q4, q4]), []⟩,
  ⟨[q119], [], (.tup [q115, q12, q4, q4]), []⟩,
  ⟨[q124], [], (.tup [q120, q12, q4, q4]), []⟩,
  ⟨[q129], [], (.tup [q125, q12, q4, q4]), []⟩,
  ⟨[q133], [], (.tup [q130, q11, q4, q4]), []⟩]
theorem esEnQ6a2_made : madeE tbu (callM tbu msEnQ6 100) hp 34 esEnQ6a2 = true := by kernel_rfl
theorem esEnQ6a2_ok {w0 : World} (hl : laidMet Tryz.prog Rows.qualitiesKnownRow.laid w0) : EsOk tbu w0 hp 34 esEnQ6a2 := madeE_ok (tbu_ok w0) (msEnQ6_ok hl) (startOk hl lay_ok hp_eq) esEnQ6a2_made
/-- circa/parsers.Parse: 23216 operations. -/
noncomputable def esEnQ6a3 : List Entry := [⟨[q138], [], (.tup [q134, q12, q4, q4]), []⟩,
  ⟨[q143], [], (.tup [q139, q12, q4, q4]), []⟩,
  ⟨[q148], [], (.tup [q144, q12, q4, q4]), []⟩,
  ⟨[q153], [], (.tup [q149, q12, q4, q4]), []⟩,
  ⟨[q158], [], (.tup [q154, q12, q4, q4]), []⟩,
  ⟨[q163], [], (.tup [q159, q12, q4, q4]), []⟩,
  ⟨[q168], [], (.tup [q164, q12, q4, q4]), []⟩,
  ⟨[q173], [], (.tup [q169, q12, q4, q4]), []⟩,
  ⟨[q178], [], (.tup [q174, q12, q4, q4]), []⟩,
  ⟨[q183], [], (.tup [q179, q12, q4, q4]), []⟩]
theorem esEnQ6a3_made : madeE tbu (callM tbu msEnQ6 100) hp 34 esEnQ6a3 = true := by kernel_rfl
theorem esEnQ6a3_ok {w0 : World} (hl : laidMet Tryz.prog Rows.qualitiesKnownRow.laid w0) : EsOk tbu w0 hp 34 esEnQ6a3 := madeE_ok (tbu_ok w0) (msEnQ6_ok hl) (startOk hl lay_ok hp_eq) esEnQ6a3_made
end Ev
end Go.Proofs.YtebgcnnhokclaaaGreatDoor

