/- Calls that were reckoned, level 3 (printed by genents.py). -/
import Derived.Test.YtojihkdonkblaaaGreatDoorKEnOT3
/-! Calls that were reckoned, level 3 (printed by genents.py). -/
set_option linter.unusedVariables false
set_option maxRecDepth 1000000
namespace Go.Proofs.YtojihkdonkblaaaGreatDoor
open Go.RowKit
namespace Ev
/-- circa/parsers.Parse: 24825 operations. -/
noncomputable def esEnO3a0 : List Entry := [⟨[(.v (.string ⟨#[46, 46, 47, 45, 48, 48, 48, 49]⟩))], [], (.tup [q16, q4, q5, q5]), []⟩,
  ⟨[(.v (.string ⟨#[47, 50, 48, 48, 52]⟩))], [], (.tup [q20, q4, q5, q5]), []⟩,
  ⟨[(.v (.string ⟨#[91, 46, 46, 50, 48, 48, 52, 93]⟩))], [], (.tup [q21, q22, q5, q5]), [(.rowU [q1, q1, q17, q5, q5, q8, q8, q0, q0, q0, q1, q1, q1, q8, q5, q5, q8, q8, q0, q0, q0] 21 100)]⟩,
  ⟨[(.v (.string ⟨#[91, 46, 46, 50, 48, 48, 52, 44, 50, 48, 48, 54, 93]⟩))], [], (.tup [q25, q22, q5, q5]), [(.rowU [q1, q1, q17, q5, q5, q8, q8, q0, q0, q0, q1, q1, q1, q8, q5, q5, q8, q8, q0, q0, q0, q1, q1, q23, q5, q5, q8, q8, q0, q0, q0, q1, q1, q1, q8, q5, q5, q8, q8, q0, q0, q0] 21 100)]⟩,
  ⟨[q53], [], (.tup [q54, q22, q5, q5]), []⟩,
  ⟨[(.v (.string ⟨#[45, 57, 57, 57, 57]⟩))], [], (.tup [q57, q4, q5, q5]), []⟩,
  ⟨[(.v (.string ⟨#[45, 48, 48, 48, 88]⟩))], [], (.tup [q60, q4, q5, q5]), []⟩,
  ⟨[q70], [], (.tup [q72, q5, q5, q5]), []⟩,
  ⟨[q61], [], (.tup [q74, q5, q5, q5]), []⟩,
  ⟨[q58], [], (.tup [q76, q4, q5, q5]), []⟩,
  ⟨[q79], [], (.tup [q80, q22, q5, q5]), []⟩,
  ⟨[q77], [], (.tup [q82, q22, q5, q5]), []⟩,
  ⟨[(.v (.string ⟨#[48, 48, 48, 48, 47, 46, 46]⟩))], [], (.tup [q83, q4, q5, q5]), []⟩]
theorem esEnO3a0_made : madeE tbu (callM tbu msEnO3 100) hp 4 esEnO3a0 = true := by kernel_rfl
theorem esEnO3a0_ok {w0 : World} (hl : laidMet Tryz.prog Rows.ordersKnownRow.laid w0) : EsOk tbu w0 hp 4 esEnO3a0 := madeE_ok (tbu_ok w0) (msEnO3_ok hl) (startOk hl lay_ok hp_eq) esEnO3a0_made
/-- circa/parsers.Parse: 24557 operations. -/
noncomputable def esEnO3a1 : List Entry := [⟨[q84], [], (.tup [q86, q5, q5, q5]), []⟩,
  ⟨[q95], [], (.tup [q96, q22, q5, q5]), []⟩,
  ⟨[(.v (.string ⟨#[89, 49, 69, 49, 54, 47]⟩))], [], (.tup [q97, q22, q5, q5]), []⟩,
  ⟨[q17], [], (.tup [q149, q5, q5, q5]), []⟩,
  ⟨[q151], [], (.tup [q152, q5, q5, q5]), []⟩,
  ⟨[(.v (.string ⟨#[50, 48, 48, 52, 63]⟩))], [], (.tup [q155, q4, q5, q5]), []⟩,
  ⟨[(.v (.string ⟨#[46, 46, 47, 50, 48, 48, 52]⟩))], [], (.tup [q156, q4, q5, q5]), []⟩,
  ⟨[(.v (.string ⟨#[50, 48, 48, 52, 47, 46, 46]⟩))], [], (.tup [q157, q4, q5, q5]), []⟩,
  ⟨[(.v (.string ⟨#[50, 48, 48, 52, 47, 50, 48, 48, 53]⟩))], [], (.tup [q160, q5, q5, q5]), []⟩,
  ⟨[q158], [], (.tup [q163, q5, q5, q5]), []⟩]
theorem esEnO3a1_made : madeE tbu (callM tbu msEnO3 100) hp 4 esEnO3a1 = true := by kernel_rfl
theorem esEnO3a1_ok {w0 : World} (hl : laidMet Tryz.prog Rows.ordersKnownRow.laid w0) : EsOk tbu w0 hp 4 esEnO3a1 := madeE_ok (tbu_ok w0) (msEnO3_ok hl) (startOk hl lay_ok hp_eq) esEnO3a1_made
/-- circa/parsers.Parse: 3901 operations. -/
noncomputable def esEnO3a2 : List Entry := [⟨[(.v (.string ⟨#[91, 50, 48, 48, 52, 93]⟩))], [], (.tup [q164, q22, q5, q5]), [(.rowU [q1, q1, q17, q5, q5, q8, q8, q0, q0, q0, q1, q1, q1, q8, q5, q5, q8, q8, q0, q0, q0] 21 100)]⟩,
  ⟨[q167], [], (.tup [q168, q5, q5, q5]), []⟩]
theorem esEnO3a2_made : madeE tbu (callM tbu msEnO3 100) hp 4 esEnO3a2 = true := by kernel_rfl
theorem esEnO3a2_ok {w0 : World} (hl : laidMet Tryz.prog Rows.ordersKnownRow.laid w0) : EsOk tbu w0 hp 4 esEnO3a2 := madeE_ok (tbu_ok w0) (msEnO3_ok hl) (startOk hl lay_ok hp_eq) esEnO3a2_made
/-- circa/exprs.Check: 7446 operations. -/
noncomputable def esEnO3a3 : List Entry := [⟨[q16], [], q5, []⟩,
  ⟨[q20], [], q5, []⟩,
  ⟨[q21], [(.rowU [q1, q1, q17, q5, q5, q8, q8, q0, q0, q0, q1, q1, q1, q8, q5, q5, q8, q8, q0, q0, q0] 21 100)], q5, []⟩,
  ⟨[q25], [(.rowU [q1, q1, q17, q5, q5, q8, q8, q0, q0, q0, q1, q1, q1, q8, q5, q5, q8, q8, q0, q0, q0, q1, q1, q23, q5, q5, q8, q8, q0, q0, q0, q1, q1, q1, q8, q5, q5, q8, q8, q0, q0, q0] 21 100)], q5, []⟩,
  ⟨[q54], [], q5, []⟩,
  ⟨[q57], [], q5, []⟩,
  ⟨[q60], [], q5, []⟩,
  ⟨[q72], [], q5, []⟩,
  ⟨[q74], [], q5, []⟩,
  ⟨[q76], [], q5, []⟩,
  ⟨[q80], [], q5, []⟩,
  ⟨[q82], [], q5, []⟩,
  ⟨[q83], [], q5, []⟩,
  ⟨[q86], [], q5, []⟩,
  ⟨[q96], [], q5, []⟩,
  ⟨[q97], [], q5, []⟩,
  ⟨[q149], [], q5, []⟩,
  ⟨[q152], [], q5, []⟩,
  ⟨[q155], [], q5, []⟩,
  ⟨[q156], [], q5, []⟩,
  ⟨[q157], [], q5, []⟩,
  ⟨[q160], [], q5, []⟩,
  ⟨[q163], [], q5, []⟩,
  ⟨[q164], [(.rowU [q1, q1, q17, q5, q5, q8, q8, q0, q0, q0, q1, q1, q1, q8, q5, q5, q8, q8, q0, q0, q0] 21 100)], q5, []⟩,
  ⟨[q168], [], q5, []⟩]
theorem esEnO3a3_made : madeE tbu (callM tbu msEnO3 100) hp 30 esEnO3a3 = true := by kernel_rfl
theorem esEnO3a3_ok {w0 : World} (hl : laidMet Tryz.prog Rows.ordersKnownRow.laid w0) : EsOk tbu w0 hp 30 esEnO3a3 := madeE_ok (tbu_ok w0) (msEnO3_ok hl) (startOk hl lay_ok hp_eq) esEnO3a3_made
/-- circa/months.Len: 325 operations. -/
noncomputable def esEnO3a4 : List Entry := [⟨[q43, q4], [], (.tup [q30, q5]), []⟩,
  ⟨[q5, q4], [], (.tup [q30, q5]), []⟩,
  ⟨[q91, q22], [], (.tup [q40, q5]), []⟩,
  ⟨[q169, q29], [], (.tup [q30, q5]), []⟩,
  ⟨[q45, q29], [], (.tup [q30, q5]), []⟩]
theorem esEnO3a4_made : madeE tbu (callM tbu msEnO3 100) hp 76 esEnO3a4 = true := by kernel_rfl
theorem esEnO3a4_ok {w0 : World} (hl : laidMet Tryz.prog Rows.ordersKnownRow.laid w0) : EsOk tbu w0 hp 76 esEnO3a4 := madeE_ok (tbu_ok w0) (msEnO3_ok hl) (startOk hl lay_ok hp_eq) esEnO3a4_made
/-- circa/units.Precision: 50 operations. -/
noncomputable def esEnO3a5 : List Entry := [⟨[q18], [], (.tup [q14, q5]), []⟩]
theorem esEnO3a5_made : madeE tbu (callM tbu msEnO3 100) hp 120 esEnO3a5 = true := by kernel_rfl
theorem esEnO3a5_ok {w0 : World} (hl : laidMet Tryz.prog Rows.ordersKnownRow.laid w0) : EsOk tbu w0 hp 120 esEnO3a5 := madeE_ok (tbu_ok w0) (msEnO3_ok hl) (startOk hl lay_ok hp_eq) esEnO3a5_made
/-- circa/units.Of: 1958 operations. -/
noncomputable def esEnO3a6 : List Entry := [⟨[q9], [], q102, []⟩,
  ⟨[q18], [], q108, []⟩,
  ⟨[q24], [], (.tup [q112, q5]), []⟩,
  ⟨[q49], [], (.tup [q113, q5]), []⟩,
  ⟨[q52], [], (.tup [q116, q5]), []⟩,
  ⟨[q56], [], (.tup [q117, q5]), []⟩,
  ⟨[q73], [], q128, []⟩,
  ⟨[q85], [], (.tup [q139, q5]), []⟩,
  ⟨[q94], [], (.tup [q143, q5]), []⟩,
  ⟨[q154], [], q108, []⟩,
  ⟨[q159], [], (.tup [q161, q5]), []⟩]
theorem esEnO3a6_made : madeE tbu (callM tbu msEnO3 100) hp 178 esEnO3a6 = true := by kernel_rfl
theorem esEnO3a6_ok {w0 : World} (hl : laidMet Tryz.prog Rows.ordersKnownRow.laid w0) : EsOk tbu w0 hp 178 esEnO3a6 := madeE_ok (tbu_ok w0) (msEnO3_ok hl) (startOk hl lay_ok hp_eq) esEnO3a6_made
/-- circa/units.Filled: 912 operations. -/
noncomputable def esEnO3a7 : List Entry := [⟨[q59, (.agg [q120, q5, q5])], [], (.tup [(.agg [q101, (.v (.int .i64 (-3287))), q101, (.v (.int .i64 (-2923)))]), q5]), []⟩,
  ⟨[q59, q100], [], q102, []⟩,
  ⟨[q75, q126], [], q128, []⟩,
  ⟨[q75, (.agg [q36, q5, q5])], [], (.tup [(.agg [q101, (.v (.int .i64 (3288))), q101, (.v (.int .i64 (3652)))]), q5]), []⟩,
  ⟨[q81, q126], [], q128, []⟩,
  ⟨[q81, (.agg [q134, q5, q5])], [], (.tup [(.agg [q101, (.v (.int .i64 (3652060))), q101, (.v (.int .i64 (3652424)))]), q5]), []⟩]
theorem esEnO3a7_made : madeE tbu (callM tbu msEnO3 100) hp 194 esEnO3a7 = true := by kernel_rfl
theorem esEnO3a7_ok {w0 : World} (hl : laidMet Tryz.prog Rows.ordersKnownRow.laid w0) : EsOk tbu w0 hp 194 esEnO3a7 := madeE_ok (tbu_ok w0) (msEnO3_ok hl) (startOk hl lay_ok hp_eq) esEnO3a7_made
/-- circa/units.unit: 2645 operations. -/
noncomputable def esEnO3a8 : List Entry := [⟨[q28, (.agg [q43, q4, q4])], [], (.tup [(.agg [q101, q106, q101, q106]), q5]), []⟩,
  ⟨[q62, (.agg [q5, q4, q4])], [], q124, []⟩,
  ⟨[q69, (.agg [q5, q4, q5])], [], q125, []⟩,
  ⟨[q78, (.agg [q5, q4, q5])], [], q125, []⟩,
  ⟨[q78, (.agg [q134, q4, q5])], [], (.tup [(.agg [q101, (.v (.int .i64 (3652060))), q101, (.v (.int .i64 (3652090)))]), q5]), []⟩,
  ⟨[q89, (.agg [q91, q22, q40])], [], (.tup [q140, q5]), []⟩,
  ⟨[q150, (.agg [q43, q4, q5])], [], (.tup [q153, q5]), []⟩,
  ⟨[q166, (.agg [q169, q29, q5])], [], (.tup [q170, q5]), []⟩]
theorem esEnO3a8_made : madeE tbu (callM tbu msEnO3 100) hp 230 esEnO3a8 = true := by kernel_rfl
theorem esEnO3a8_ok {w0 : World} (hl : laidMet Tryz.prog Rows.ordersKnownRow.laid w0) : EsOk tbu w0 hp 230 esEnO3a8 := madeE_ok (tbu_ok w0) (msEnO3_ok hl) (startOk hl lay_ok hp_eq) esEnO3a8_made
end Ev
end Go.Proofs.YtojihkdonkblaaaGreatDoor

