/- Calls that were reckoned, level 1 (printed by genents.py). -/
import Derived.Test.YtebgcnnhokclaaaGreatDoorKEnQT1
/-! Calls that were reckoned, level 1 (printed by genents.py). -/
set_option linter.unusedVariables false
set_option maxRecDepth 1000000
namespace Go.Proofs.YtebgcnnhokclaaaGreatDoor
open Go.RowKit
namespace Ev
/-- circa/marks.Spread: 10584 operations. -/
noncomputable def esEnQ1c0 : List Entry := [⟨[q2, q2, q3], [], (.tup [q2, q4]), []⟩,
  ⟨[q32, q2, q3], [], (.tup [q32, q4]), []⟩,
  ⟨[q37, q2, q3], [], (.tup [q37, q4]), []⟩,
  ⟨[q42, q2, q3], [], (.tup [q42, q4]), []⟩,
  ⟨[q47, q2, q3], [], (.tup [q47, q4]), []⟩,
  ⟨[q52, q2, q3], [], (.tup [q52, q4]), []⟩,
  ⟨[q57, q2, q3], [], (.tup [q57, q4]), []⟩,
  ⟨[q62, q2, q3], [], (.tup [q62, q4]), []⟩,
  ⟨[q67, q2, q3], [], (.tup [q67, q4]), []⟩,
  ⟨[q72, q2, q3], [], (.tup [q72, q4]), []⟩,
  ⟨[q77, q2, q3], [], (.tup [q77, q4]), []⟩,
  ⟨[q82, q2, q3], [], (.tup [q82, q4]), []⟩,
  ⟨[q87, q2, q3], [], (.tup [q87, q4]), []⟩,
  ⟨[q92, q2, q3], [], (.tup [q92, q4]), []⟩,
  ⟨[q97, q2, q3], [], (.tup [q97, q4]), []⟩,
  ⟨[q102, q2, q3], [], (.tup [q102, q4]), []⟩,
  ⟨[q107, q2, q3], [], (.tup [q107, q4]), []⟩,
  ⟨[q112, q2, q3], [], (.tup [q112, q4]), []⟩,
  ⟨[q117, q2, q3], [], (.tup [q117, q4]), []⟩,
  ⟨[q122, q2, q3], [], (.tup [q122, q4]), []⟩,
  ⟨[q127, q2, q3], [], (.tup [q127, q4]), []⟩,
  ⟨[q2, q107, q3], [], (.tup [(.agg [q23, q23, q23]), q4]), []⟩,
  ⟨[q136, q2, q3], [], (.tup [q136, q4]), []⟩,
  ⟨[q141, q2, q3], [], (.tup [q141, q4]), []⟩,
  ⟨[q146, q2, q3], [], (.tup [q146, q4]), []⟩,
  ⟨[q151, q2, q3], [], (.tup [q151, q4]), []⟩,
  ⟨[q156, q2, q3], [], (.tup [q156, q4]), []⟩,
  ⟨[q161, q2, q3], [], (.tup [q161, q4]), []⟩,
  ⟨[q166, q2, q3], [], (.tup [q166, q4]), []⟩,
  ⟨[q171, q2, q3], [], (.tup [q171, q4]), []⟩,
  ⟨[q176, q2, q3], [], (.tup [q176, q4]), []⟩,
  ⟨[q181, q2, q3], [], (.tup [q181, q4]), []⟩,
  ⟨[q186, q2, q3], [], (.tup [q186, q4]), []⟩,
  ⟨[q191, q2, q3], [], (.tup [q191, q4]), []⟩,
  ⟨[q196, q2, q3], [], (.tup [q196, q4]), []⟩,
  ⟨[q201, q2, q3], [], (.tup [q201, q4]), []⟩,
  ⟨[q206, q2, q3], [], (.tup [q206, q4]), []⟩,
  ⟨[q211, q2, q3], [], (.tup [q211, q4]), []⟩,
  ⟨[q216, q2, q3], [], (.tup [q216, q4]), []⟩,
  ⟨[q221, q2, q3], [], (.tup [q221, q4]), []⟩,
  ⟨[q226, q2, q3], [], (.tup [q226, q4]), []⟩,
  ⟨[q231, q2, q3], [], (.tup [q231, q4]), []⟩,
  ⟨[q2, q186, q3], [], (.tup [(.agg [q28, q28, q28]), q4]), []⟩,
  ⟨[q240, q2, q3], [], (.tup [q240, q4]), []⟩,
  ⟨[q245, q2, q3], [], (.tup [q245, q4]), []⟩,
  ⟨[q250, q2, q3], [], (.tup [q250, q4]), []⟩,
  ⟨[q255, q2, q3], [], (.tup [q255, q4]), []⟩,
  ⟨[q260, q2, q3], [], (.tup [q260, q4]), []⟩,
  ⟨[q265, q2, q3], [], (.tup [q265, q4]), []⟩,
  ⟨[q270, q2, q3], [], (.tup [q270, q4]), []⟩,
  ⟨[q275, q2, q3], [], (.tup [q275, q4]), []⟩,
  ⟨[q280, q2, q3], [], (.tup [q280, q4]), []⟩,
  ⟨[q285, q2, q3], [], (.tup [q285, q4]), []⟩,
  ⟨[q290, q2, q3], [], (.tup [q290, q4]), []⟩,
  ⟨[q295, q2, q3], [], (.tup [q295, q4]), []⟩,
  ⟨[q300, q2, q3], [], (.tup [q300, q4]), []⟩,
  ⟨[q305, q2, q3], [], (.tup [q305, q4]), []⟩,
  ⟨[q310, q2, q3], [], (.tup [q310, q4]), []⟩,
  ⟨[q315, q2, q3], [], (.tup [q315, q4]), []⟩,
  ⟨[q320, q2, q3], [], (.tup [q320, q4]), []⟩,
  ⟨[q325, q2, q3], [], (.tup [q325, q4]), []⟩,
  ⟨[q330, q2, q3], [], (.tup [q330, q4]), []⟩,
  ⟨[q335, q2, q3], [], (.tup [q335, q4]), []⟩,
  ⟨[q2, q265, q3], [], (.tup [(.agg [q29, q29, q29]), q4]), []⟩,
  ⟨[q2, q32, q12], [], (.tup [q32, q4]), []⟩,
  ⟨[q2, q47, q12], [], (.tup [q52, q4]), []⟩,
  ⟨[q2, q2, q12], [], (.tup [q2, q4]), []⟩,
  ⟨[q2, q87, q12], [], (.tup [q102, q4]), []⟩,
  ⟨[q2, q32, q11], [], (.tup [q32, q4]), []⟩,
  ⟨[q67, q2, q12], [], (.tup [q67, q4]), []⟩,
  ⟨[q2, q72, q12], [], (.tup [q82, q4]), []⟩,
  ⟨[q32, q2, q12], [], (.tup [q32, q4]), []⟩]
theorem esEnQ1c0_made : madeE tbu (callM tbu msEnQ1 100) hp 208 esEnQ1c0 = true := by kernel_rfl
theorem esEnQ1c0_ok {w0 : World} (hl : laidMet Tryz.prog Rows.qualitiesKnownRow.laid w0) : EsOk tbu w0 hp 208 esEnQ1c0 := madeE_ok (tbu_ok w0) (msEnQ1_ok hl) (startOk hl lay_ok hp_eq) esEnQ1c0_made
/-- circa/years.Leap: 110 operations. -/
noncomputable def esEnQ1c1 : List Entry := [⟨[q15], [], (.tup [q10, q4]), []⟩,
  ⟨[q18], [], (.tup [q1, q4]), []⟩]
theorem esEnQ1c1_made : madeE tbu (callM tbu msEnQ1 100) hp 273 esEnQ1c1 = true := by kernel_rfl
theorem esEnQ1c1_ok {w0 : World} (hl : laidMet Tryz.prog Rows.qualitiesKnownRow.laid w0) : EsOk tbu w0 hp 273 esEnQ1c1 := madeE_ok (tbu_ok w0) (msEnQ1_ok hl) (startOk hl lay_ok hp_eq) esEnQ1c1_made
end Ev
end Go.Proofs.YtebgcnnhokclaaaGreatDoor

