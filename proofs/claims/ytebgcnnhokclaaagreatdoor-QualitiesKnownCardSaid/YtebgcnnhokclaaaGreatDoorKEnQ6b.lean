/- Calls that were reckoned, level 6 (printed by genents.py). -/
import Derived.Test.YtebgcnnhokclaaaGreatDoorKEnQT6
/-! Calls that were reckoned, level 6 (printed by genents.py). -/
set_option linter.unusedVariables false
set_option maxRecDepth 1000000
namespace Go.Proofs.YtebgcnnhokclaaaGreatDoor
open Go.RowKit
namespace Ev
/-- circa/parsers.Parse: 22881 operations. -/
noncomputable def esEnQ6b0 : List Entry := [⟨[q188], [], (.tup [q184, q12, q4, q4]), []⟩,
  ⟨[q193], [], (.tup [q189, q12, q4, q4]), []⟩,
  ⟨[q198], [], (.tup [q194, q12, q4, q4]), []⟩,
  ⟨[q203], [], (.tup [q199, q12, q4, q4]), []⟩,
  ⟨[q208], [], (.tup [q204, q12, q4, q4]), []⟩,
  ⟨[q213], [], (.tup [q209, q12, q4, q4]), []⟩,
  ⟨[q218], [], (.tup [q214, q12, q4, q4]), []⟩,
  ⟨[q223], [], (.tup [q219, q12, q4, q4]), []⟩,
  ⟨[q228], [], (.tup [q224, q12, q4, q4]), []⟩,
  ⟨[q233], [], (.tup [q229, q12, q4, q4]), []⟩]
theorem esEnQ6b0_made : madeE tbu (callM tbu msEnQ6 100) hp 34 esEnQ6b0 = true := by kernel_rfl
theorem esEnQ6b0_ok {w0 : World} (hl : laidMet Tryz.prog Rows.qualitiesKnownRow.laid w0) : EsOk tbu w0 hp 34 esEnQ6b0 := madeE_ok (tbu_ok w0) (msEnQ6_ok hl) (startOk hl lay_ok hp_eq) esEnQ6b0_made
/-- circa/parsers.Parse: 22832 operations. -/
noncomputable def esEnQ6b1 : List Entry := [⟨[q237], [], (.tup [q234, q11, q4, q4]), []⟩,
  ⟨[q242], [], (.tup [q238, q12, q4, q4]), []⟩,
  ⟨[q247], [], (.tup [q243, q12, q4, q4]), []⟩,
  ⟨[q252], [], (.tup [q248, q12, q4, q4]), []⟩,
  ⟨[q257], [], (.tup [q253, q12, q4, q4]), []⟩,
  ⟨[q262], [], (.tup [q258, q12, q4, q4]), []⟩,
  ⟨[q267], [], (.tup [q263, q12, q4, q4]), []⟩,
  ⟨[q272], [], (.tup [q268, q12, q4, q4]), []⟩,
  ⟨[q277], [], (.tup [q273, q12, q4, q4]), []⟩,
  ⟨[q282], [], (.tup [q278, q12, q4, q4]), []⟩]
theorem esEnQ6b1_made : madeE tbu (callM tbu msEnQ6 100) hp 34 esEnQ6b1 = true := by kernel_rfl
theorem esEnQ6b1_ok {w0 : World} (hl : laidMet Tryz.prog Rows.qualitiesKnownRow.laid w0) : EsOk tbu w0 hp 34 esEnQ6b1 := madeE_ok (tbu_ok w0) (msEnQ6_ok hl) (startOk hl lay_ok hp_eq) esEnQ6b1_made
/-- circa/parsers.Parse: 23149 operations. -/
noncomputable def esEnQ6b2 : List Entry := [⟨[q287], [], (.tup [q283, q12, q4, q4]), []⟩,
  ⟨[q292], [], (.tup [q288, q12, q4, q4]), []⟩,
  ⟨[q297], [], (.tup [q293, q12, q4, q4]), []⟩,
  ⟨[q302], [], (.tup [q298, q12, q4, q4]), []⟩,
  ⟨[q307], [], (.tup [q303, q12, q4, q4]), []⟩,
  ⟨[q312], [], (.tup [q308, q12, q4, q4]), []⟩,
  ⟨[q317], [], (.tup [q313, q12, q4, q4]), []⟩,
  ⟨[q322], [], (.tup [q318, q12, q4, q4]), []⟩,
  ⟨[q327], [], (.tup [q323, q12, q4, q4]), []⟩,
  ⟨[q332], [], (.tup [q328, q12, q4, q4]), []⟩]
theorem esEnQ6b2_made : madeE tbu (callM tbu msEnQ6 100) hp 34 esEnQ6b2 = true := by kernel_rfl
theorem esEnQ6b2_ok {w0 : World} (hl : laidMet Tryz.prog Rows.qualitiesKnownRow.laid w0) : EsOk tbu w0 hp 34 esEnQ6b2 := madeE_ok (tbu_ok w0) (msEnQ6_ok hl) (startOk hl lay_ok hp_eq) esEnQ6b2_made
/-- circa/parsers.Parse: 4554 operations. -/
noncomputable def esEnQ6b3 : List Entry := [⟨[q337], [], (.tup [q333, q12, q4, q4]), []⟩,
  ⟨[q341], [], (.tup [q338, q11, q4, q4]), []⟩]
theorem esEnQ6b3_made : madeE tbu (callM tbu msEnQ6 100) hp 34 esEnQ6b3 = true := by kernel_rfl
theorem esEnQ6b3_ok {w0 : World} (hl : laidMet Tryz.prog Rows.qualitiesKnownRow.laid w0) : EsOk tbu w0 hp 34 esEnQ6b3 := madeE_ok (tbu_ok w0) (msEnQ6_ok hl) (startOk hl lay_ok hp_eq) esEnQ6b3_made
end Ev
end Go.Proofs.YtebgcnnhokclaaaGreatDoor

