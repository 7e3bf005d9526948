/- Calls that were reckoned, level 1 (printed by genents.py). -/
import Derived.Test.YtojihkdonkblaaaGreatDoorKEnOT1
/-! Calls that were reckoned, level 1 (printed by genents.py). -/
set_option linter.unusedVariables false
set_option maxRecDepth 1000000
namespace Go.Proofs.YtojihkdonkblaaaGreatDoor
open Go.RowKit
namespace Ev
/-- circa/parsers.of: 9877 operations. -/
noncomputable def esEnO1a0 : List Entry := [⟨[(.v (.string ⟨#[45, 48, 48, 48, 49]⟩)), q9], [], q4, []⟩,
  ⟨[q17, q18], [], q5, []⟩,
  ⟨[q53, q52], [], q22, []⟩,
  ⟨[(.v (.string ⟨#[45, 57, 57, 57, 57]⟩)), q56], [], q4, []⟩,
  ⟨[(.v (.string ⟨#[45, 48, 48, 48, 88]⟩)), q59], [], q4, []⟩,
  ⟨[q66, q62], [], q5, []⟩,
  ⟨[q70, q69], [], q5, []⟩,
  ⟨[q61, q73], [], q5, []⟩,
  ⟨[q58, q75], [], q4, []⟩,
  ⟨[q79, q78], [], q22, []⟩,
  ⟨[q77, q81], [], q22, []⟩,
  ⟨[q84, q85], [], q5, []⟩,
  ⟨[q92, q89], [], q5, []⟩,
  ⟨[q95, q94], [], q22, []⟩,
  ⟨[q151, q150], [], q5, []⟩,
  ⟨[(.v (.string ⟨#[50, 48, 48, 52, 63]⟩)), q154], [], q4, []⟩,
  ⟨[q158, q159], [], q5, []⟩,
  ⟨[q167, q166], [], q5, []⟩]
theorem esEnO1a0_made : madeE tbu (callM tbu msEnO1 100) hp 44 esEnO1a0 = true := by kernel_rfl
theorem esEnO1a0_ok {w0 : World} (hl : laidMet Tryz.prog Rows.ordersKnownRow.laid w0) : EsOk tbu w0 hp 44 esEnO1a0 := madeE_ok (tbu_ok w0) (msEnO1_ok hl) (startOk hl lay_ok hp_eq) esEnO1a0_made
/-- circa/marks.Spread: 480 operations. -/
noncomputable def esEnO1a1 : List Entry := [⟨[q3, q3, q4], [], (.tup [q3, q5]), []⟩,
  ⟨[q3, q3, q26], [], (.tup [q3, q5]), []⟩,
  ⟨[q3, q3, q22], [], (.tup [q3, q5]), []⟩,
  ⟨[q3, (.agg [q14, q0, q0]), q4], [], (.tup [(.agg [q14, q0, q0]), q5]), []⟩]
theorem esEnO1a1_made : madeE tbu (callM tbu msEnO1 100) hp 89 esEnO1a1 = true := by kernel_rfl
theorem esEnO1a1_ok {w0 : World} (hl : laidMet Tryz.prog Rows.ordersKnownRow.laid w0) : EsOk tbu w0 hp 89 esEnO1a1 := madeE_ok (tbu_ok w0) (msEnO1_ok hl) (startOk hl lay_ok hp_eq) esEnO1a1_made
/-- circa/dateforms.Check: 4237 operations. -/
noncomputable def esEnO1a2 : List Entry := [⟨[q9], [], q5, []⟩,
  ⟨[q18], [], q5, []⟩,
  ⟨[q24], [], q5, []⟩,
  ⟨[q28], [], q5, []⟩,
  ⟨[q49], [], q5, []⟩,
  ⟨[q52], [], q5, []⟩,
  ⟨[q56], [], q5, []⟩,
  ⟨[q59], [], q5, []⟩,
  ⟨[q62], [], q5, []⟩,
  ⟨[q69], [], q5, []⟩,
  ⟨[q73], [], q5, []⟩,
  ⟨[q75], [], q5, []⟩,
  ⟨[q78], [], q5, []⟩,
  ⟨[q81], [], q5, []⟩,
  ⟨[q85], [], q5, []⟩,
  ⟨[q89], [], q5, []⟩,
  ⟨[q94], [], q5, []⟩,
  ⟨[q150], [], q5, []⟩,
  ⟨[q154], [], q5, []⟩,
  ⟨[q159], [], q5, []⟩,
  ⟨[q166], [], q5, []⟩]
theorem esEnO1a2_made : madeE tbu (callM tbu msEnO1 100) hp 90 esEnO1a2 = true := by kernel_rfl
theorem esEnO1a2_ok {w0 : World} (hl : laidMet Tryz.prog Rows.ordersKnownRow.laid w0) : EsOk tbu w0 hp 90 esEnO1a2 := madeE_ok (tbu_ok w0) (msEnO1_ok hl) (startOk hl lay_ok hp_eq) esEnO1a2_made
/-- circa/fillings.of: 165 operations. -/
noncomputable def esEnO1a3 : List Entry := [⟨[q59], [], q119, [(.row [q5] 3), (.row [q5] 3)]⟩,
  ⟨[q75], [], q130, [(.row [q5] 3), (.row [q5] 3)]⟩,
  ⟨[q81], [], q137, [(.row [q5] 3), (.row [q5] 3)]⟩]
theorem esEnO1a3_made : madeE tbu (callM tbu msEnO1 100) hp 91 esEnO1a3 = true := by kernel_rfl
theorem esEnO1a3_ok {w0 : World} (hl : laidMet Tryz.prog Rows.ordersKnownRow.laid w0) : EsOk tbu w0 hp 91 esEnO1a3 := madeE_ok (tbu_ok w0) (msEnO1_ok hl) (startOk hl lay_ok hp_eq) esEnO1a3_made
/-- (circa/fillings.form).seek: 2486 operations. -/
noncomputable def esEnO1a4 : List Entry := [⟨[q119, q47, q6], [(.row [q5] 3), (.row [q5] 3)], (.tup [(.agg [q120, q5, q5]), q6]), []⟩,
  ⟨[q119, q122, q1], [(.row [q5] 3), (.row [q5] 3)], (.tup [q100, q6]), []⟩,
  ⟨[q119, (.agg [q120, q5, q5]), q6], [(.row [q5] 3), (.row [q5] 3)], (.tup [(.agg [q120, q5, q5]), q6]), []⟩,
  ⟨[q119, q100, q6], [(.row [q5] 3), (.row [q5] 3)], (.tup [q100, q6]), []⟩,
  ⟨[q130, q47, q6], [(.row [q5] 3), (.row [q5] 3)], (.tup [q126, q6]), []⟩,
  ⟨[q130, q122, q1], [(.row [q5] 3), (.row [q5] 3)], (.tup [(.agg [q36, q5, q5]), q6]), []⟩,
  ⟨[q130, q126, q6], [(.row [q5] 3), (.row [q5] 3)], (.tup [q126, q6]), []⟩,
  ⟨[q130, (.agg [q36, q5, q5]), q6], [(.row [q5] 3), (.row [q5] 3)], (.tup [(.agg [q36, q5, q5]), q6]), []⟩,
  ⟨[q133, q47, q6], [(.rowU [q4] 1 3), (.row [q5] 3)], (.tup [(.agg [q5, q4, q5]), q6]), []⟩,
  ⟨[q133, q122, q1], [(.rowU [q4] 1 3), (.row [q5] 3)], (.tup [(.agg [q134, q4, q5]), q6]), []⟩,
  ⟨[q133, (.agg [q5, q4, q5]), q6], [(.rowU [q4] 1 3), (.row [q5] 3)], (.tup [(.agg [q5, q4, q5]), q6]), []⟩,
  ⟨[q133, (.agg [q134, q4, q5]), q6], [(.rowU [q4] 1 3), (.row [q5] 3)], (.tup [(.agg [q134, q4, q5]), q6]), []⟩,
  ⟨[q137, q47, q6], [(.row [q5] 3), (.row [q5] 3)], (.tup [q126, q6]), []⟩,
  ⟨[q137, q122, q1], [(.row [q5] 3), (.row [q5] 3)], (.tup [(.agg [q134, q5, q5]), q6]), []⟩,
  ⟨[q137, q126, q6], [(.row [q5] 3), (.row [q5] 3)], (.tup [q126, q6]), []⟩,
  ⟨[q137, (.agg [q134, q5, q5]), q6], [(.row [q5] 3), (.row [q5] 3)], (.tup [(.agg [q134, q5, q5]), q6]), []⟩]
theorem esEnO1a4_made : madeE tbu (callM tbu msEnO1 100) hp 92 esEnO1a4 = true := by kernel_rfl
theorem esEnO1a4_ok {w0 : World} (hl : laidMet Tryz.prog Rows.ordersKnownRow.laid w0) : EsOk tbu w0 hp 92 esEnO1a4 := madeE_ok (tbu_ok w0) (msEnO1_ok hl) (startOk hl lay_ok hp_eq) esEnO1a4_made
/-- circa/yearforms.Value: 6314 operations. -/
noncomputable def esEnO1a5 : List Entry := [⟨[(.agg [q1, q1, q17, q5, q5])], [], (.tup [q43, q5]), []⟩,
  ⟨[(.agg [q1, q1, q61, q5, q5])], [], q64, []⟩,
  ⟨[(.agg [q1, q1, q84, q5, q5])], [], (.tup [q91, q5]), []⟩,
  ⟨[(.agg [q6, q1, q7, q5, q5])], [], q99, []⟩,
  ⟨[(.agg [q1, q1, q23, q5, q5])], [], (.tup [(.v (.int .i64 (2006))), q5]), []⟩,
  ⟨[(.agg [q1, q1, q48, q5, q5])], [], (.tup [(.v (.int .i64 (2007))), q5]), []⟩,
  ⟨[(.agg [q6, q6, q51, q39, q5])], [], (.tup [q115, q5]), []⟩,
  ⟨[(.agg [q6, q1, q55, q5, q5])], [], (.tup [(.v (.int .i64 (-9999))), q5]), []⟩,
  ⟨[(.agg [q1, q6, q51, q39, q5])], [], (.tup [q141, q5]), []⟩,
  ⟨[(.agg [q1, q1, q158, q5, q5])], [], (.tup [q45, q5]), []⟩,
  ⟨[(.agg [q1, q1, q165, q5, q5])], [], (.tup [q169, q5]), []⟩]
theorem esEnO1a5_made : madeE tbu (callM tbu msEnO1 100) hp 101 esEnO1a5 = true := by kernel_rfl
theorem esEnO1a5_ok {w0 : World} (hl : laidMet Tryz.prog Rows.ordersKnownRow.laid w0) : EsOk tbu w0 hp 101 esEnO1a5 := madeE_ok (tbu_ok w0) (msEnO1_ok hl) (startOk hl lay_ok hp_eq) esEnO1a5_made
/-- circa/years.Leap: 330 operations. -/
noncomputable def esEnO1a6 : List Entry := [⟨[q43], [], (.tup [q6, q5]), []⟩,
  ⟨[q5], [], (.tup [q6, q5]), []⟩,
  ⟨[q91], [], (.tup [q1, q5]), []⟩,
  ⟨[q134], [], (.tup [q1, q5]), []⟩,
  ⟨[q169], [], (.tup [q1, q5]), []⟩,
  ⟨[q45], [], (.tup [q1, q5]), []⟩]
theorem esEnO1a6_made : madeE tbu (callM tbu msEnO1 100) hp 127 esEnO1a6 = true := by kernel_rfl
theorem esEnO1a6_ok {w0 : World} (hl : laidMet Tryz.prog Rows.ordersKnownRow.laid w0) : EsOk tbu w0 hp 127 esEnO1a6 := madeE_ok (tbu_ok w0) (msEnO1_ok hl) (startOk hl lay_ok hp_eq) esEnO1a6_made
/-- circa/fillings.fits: 1032 operations. -/
noncomputable def esEnO1a7 : List Entry := [⟨[q27, q29], [], (.slU 14 0 1 0), [(.rowU [q4] 1 3)]⟩,
  ⟨[q27, q30], [], (.slU 14 0 1 0), [(.rowU [q4] 1 3)]⟩,
  ⟨[q87, q29], [], (.slU 14 0 1 0), [(.rowU [q22] 1 3)]⟩,
  ⟨[q88, q30], [], (.slU 14 0 1 0), [(.rowU [q40] 1 3)]⟩]
theorem esEnO1a7_made : madeE tbu (callM tbu msEnO1 100) hp 136 esEnO1a7 = true := by kernel_rfl
theorem esEnO1a7_ok {w0 : World} (hl : laidMet Tryz.prog Rows.ordersKnownRow.laid w0) : EsOk tbu w0 hp 136 esEnO1a7 := madeE_ok (tbu_ok w0) (msEnO1_ok hl) (startOk hl lay_ok hp_eq) esEnO1a7_made
/-- circa/units.unit: 2652 operations. -/
noncomputable def esEnO1a8 : List Entry := [⟨[q9, q100], [], q102, []⟩,
  ⟨[q18, (.agg [q43, q5, q5])], [], q108, []⟩,
  ⟨[q24, (.agg [(.v (.int .i64 (2006))), q5, q5])], [], (.tup [q112, q5]), []⟩,
  ⟨[q49, (.agg [(.v (.int .i64 (2007))), q5, q5])], [], (.tup [q113, q5]), []⟩,
  ⟨[q52, (.agg [q115, q5, q5])], [], (.tup [q116, q5]), []⟩,
  ⟨[q56, (.agg [(.v (.int .i64 (-9999))), q5, q5])], [], (.tup [q117, q5]), []⟩,
  ⟨[q59, (.agg [q120, q5, q5])], [], (.tup [(.agg [q101, (.v (.int .i64 (-3287))), q101, (.v (.int .i64 (-2923)))]), q5]), []⟩,
  ⟨[q59, q100], [], q102, []⟩,
  ⟨[q73, q126], [], q128, []⟩,
  ⟨[q75, q126], [], q128, []⟩,
  ⟨[q75, (.agg [q36, q5, q5])], [], (.tup [(.agg [q101, (.v (.int .i64 (3288))), q101, (.v (.int .i64 (3652)))]), q5]), []⟩,
  ⟨[q81, q126], [], q128, []⟩,
  ⟨[q81, (.agg [q134, q5, q5])], [], (.tup [(.agg [q101, (.v (.int .i64 (3652060))), q101, (.v (.int .i64 (3652424)))]), q5]), []⟩,
  ⟨[q85, (.agg [q91, q5, q5])], [], (.tup [q139, q5]), []⟩,
  ⟨[q94, (.agg [q141, q5, q5])], [], (.tup [q143, q5]), []⟩,
  ⟨[q154, (.agg [q43, q5, q5])], [], q108, []⟩,
  ⟨[q159, (.agg [q45, q5, q5])], [], (.tup [q161, q5]), []⟩]
theorem esEnO1a8_made : madeE tbu (callM tbu msEnO1 100) hp 230 esEnO1a8 = true := by kernel_rfl
theorem esEnO1a8_ok {w0 : World} (hl : laidMet Tryz.prog Rows.ordersKnownRow.laid w0) : EsOk tbu w0 hp 230 esEnO1a8 := madeE_ok (tbu_ok w0) (msEnO1_ok hl) (startOk hl lay_ok hp_eq) esEnO1a8_made
end Ev
end Go.Proofs.YtojihkdonkblaaaGreatDoor

