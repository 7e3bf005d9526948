/- Calls that were reckoned, level 4 (printed by genents.py). -/
import Derived.Test.YtojihkdonkblaaaGreatDoorKEnOT4
/-! Calls that were reckoned, level 4 (printed by genents.py). -/
set_option linter.unusedVariables false
set_option maxRecDepth 1000000
namespace Go.Proofs.YtojihkdonkblaaaGreatDoor
open Go.RowKit
namespace Ev
/-- circa/families.Of: 200 operations. -/
noncomputable def esEnO4a0 : List Entry := [⟨[q60], [], q105, [(.row [q13, q15, q6, q1, q58, q5, q5, q8, q8, q0, q0, q0, q0, q101, q5, q101, q5] 136)]⟩,
  ⟨[q76], [], q105, [(.row [q13, q15, q1, q1, q58, q5, q5, q8, q8, q0, q0, q0, q0, q101, q5, q101, q5] 136)]⟩,
  ⟨[q80], [], q105, [(.row [q13, q15, q1, q1, q77, q5, q5, q27, q8, q0, q0, q0, q0, q101, q5, q101, q5] 136)]⟩,
  ⟨[q82], [], q105, [(.row [q13, q15, q1, q1, q77, q5, q5, q8, q8, q0, q0, q0, q0, q101, q5, q101, q5] 136)]⟩]
theorem esEnO4a0_made : madeE tbu (callM tbu msEnO4 100) hp 68 esEnO4a0 = true := by kernel_rfl
theorem esEnO4a0_ok {w0 : World} (hl : laidMet Tryz.prog Rows.ordersKnownRow.laid w0) : EsOk tbu w0 hp 68 esEnO4a0 := madeE_ok (tbu_ok w0) (msEnO4_ok hl) (startOk hl lay_ok hp_eq) esEnO4a0_made
/-- circa/extents.family: 1548 operations. -/
noncomputable def esEnO4a1 : List Entry := [⟨[q118], [], q123, []⟩,
  ⟨[q129], [], q131, []⟩,
  ⟨[q136], [], q138, []⟩]
theorem esEnO4a1_made : madeE tbu (callM tbu msEnO4 100) hp 70 esEnO4a1 = true := by kernel_rfl
theorem esEnO4a1_ok {w0 : World} (hl : laidMet Tryz.prog Rows.ordersKnownRow.laid w0) : EsOk tbu w0 hp 70 esEnO4a1 := madeE_ok (tbu_ok w0) (msEnO4_ok hl) (startOk hl lay_ok hp_eq) esEnO4a1_made
/-- (circa/fillings.form).seek: 459 operations. -/
noncomputable def esEnO4a2 : List Entry := [⟨[q42, q47, q6], [(.rowU [q4] 1 3), (.rowU [q4] 1 3)], (.tup [(.agg [q43, q4, q4]), q6]), []⟩,
  ⟨[q63, q47, q6], [(.rowU [q4] 1 3), (.rowU [q4] 1 3)], (.tup [(.agg [q5, q4, q4]), q6]), []⟩,
  ⟨[q90, q47, q6], [(.rowU [q22] 1 3), (.rowU [q40] 1 3)], (.tup [(.agg [q91, q22, q40]), q6]), []⟩]
theorem esEnO4a2_made : madeE tbu (callM tbu msEnO4 100) hp 92 esEnO4a2 = true := by kernel_rfl
theorem esEnO4a2_ok {w0 : World} (hl : laidMet Tryz.prog Rows.ordersKnownRow.laid w0) : EsOk tbu w0 hp 92 esEnO4a2 := madeE_ok (tbu_ok w0) (msEnO4_ok hl) (startOk hl lay_ok hp_eq) esEnO4a2_made
/-- circa/families.date: 963 operations. -/
noncomputable def esEnO4a3 : List Entry := [⟨[q24], [], q103, [(.row [q101, (.v (.int .i64 (732677))), q101, (.v (.int .i64 (733041)))] 64)]⟩,
  ⟨[q52], [], q103, [(.row [q101, (.v (.int .i64 (-3652425000000000000))), q101, (.v (.int .i64 (-3652424999999999635)))] 64)]⟩,
  ⟨[q56], [], q103, [(.row [q101, (.v (.int .i64 (-3652059))), q101, (.v (.int .i64 (-3651695)))] 64)]⟩,
  ⟨[q73], [], q103, [(.row [q101, q5, q101, (.v (.int .i64 (365)))] 64)]⟩,
  ⟨[q85], [], q103, [(.row [q101, (.v (.int .i64 (693961))), q101, (.v (.int .i64 (694325)))] 64)]⟩,
  ⟨[q94], [], q103, [(.row [q101, q142, q101, (.v (.int .i64 (3652425000000000365)))] 64)]⟩,
  ⟨[q18], [], q103, [(.row [q101, q106, q101, q107] 64)]⟩,
  ⟨[q154], [], q103, [(.row [q101, q106, q101, q107] 64)]⟩,
  ⟨[q159], [], q103, [(.row [q101, (.v (.int .i64 (732312))), q101, (.v (.int .i64 (732676)))] 64)]⟩]
theorem esEnO4a3_made : madeE tbu (callM tbu msEnO4 100) hp 116 esEnO4a3 = true := by kernel_rfl
theorem esEnO4a3_ok {w0 : World} (hl : laidMet Tryz.prog Rows.ordersKnownRow.laid w0) : EsOk tbu w0 hp 116 esEnO4a3 := madeE_ok (tbu_ok w0) (msEnO4_ok hl) (startOk hl lay_ok hp_eq) esEnO4a3_made
/-- circa/families.interval: 1152 operations. -/
noncomputable def esEnO4a4 : List Entry := [⟨[q16], [], q103, [(.row [q104, q5, q101, q98] 64)]⟩,
  ⟨[q20], [], q109, []⟩,
  ⟨[q83], [], q103, [(.row [q101, q5, (.v (.int .i8 (1))), q5] 64)]⟩,
  ⟨[q97], [], q144, []⟩,
  ⟨[q156], [], q103, [(.row [q104, q5, q101, q107] 64)]⟩,
  ⟨[q157], [], q103, [(.row [q101, q106, (.v (.int .i8 (1))), q5] 64)]⟩,
  ⟨[q160], [], q103, [(.row [q101, q106, q101, (.v (.int .i64 (732676)))] 64)]⟩]
theorem esEnO4a4_made : madeE tbu (callM tbu msEnO4 100) hp 117 esEnO4a4 = true := by kernel_rfl
theorem esEnO4a4_ok {w0 : World} (hl : laidMet Tryz.prog Rows.ordersKnownRow.laid w0) : EsOk tbu w0 hp 117 esEnO4a4 := madeE_ok (tbu_ok w0) (msEnO4_ok hl) (startOk hl lay_ok hp_eq) esEnO4a4_made
/-- circa/families.span: 102 operations. -/
noncomputable def esEnO4a5 : List Entry := [⟨[(.agg [q1, q1, q17, q5, q5, q8, q8, q0, q0, q0, q1, q1, q1, q8, q5, q5, q8, q8, q0, q0, q0]), q6, q1], [], q110, []⟩,
  ⟨[(.agg [q1, q1, q48, q5, q5, q8, q8, q0, q0, q0, q1, q1, q1, q8, q5, q5, q8, q8, q0, q0, q0]), q1, q1], [], q113, []⟩]
theorem esEnO4a5_made : madeE tbu (callM tbu msEnO4 100) hp 119 esEnO4a5 = true := by kernel_rfl
theorem esEnO4a5_ok {w0 : World} (hl : laidMet Tryz.prog Rows.ordersKnownRow.laid w0) : EsOk tbu w0 hp 119 esEnO4a5 := madeE_ok (tbu_ok w0) (msEnO4_ok hl) (startOk hl lay_ok hp_eq) esEnO4a5_made
/-- circa/units.Of: 768 operations. -/
noncomputable def esEnO4a6 : List Entry := [⟨[q69], [], q125, []⟩,
  ⟨[q150], [], (.tup [q153, q5]), []⟩,
  ⟨[q166], [], (.tup [q170, q5]), []⟩]
theorem esEnO4a6_made : madeE tbu (callM tbu msEnO4 100) hp 178 esEnO4a6 = true := by kernel_rfl
theorem esEnO4a6_ok {w0 : World} (hl : laidMet Tryz.prog Rows.ordersKnownRow.laid w0) : EsOk tbu w0 hp 178 esEnO4a6 := madeE_ok (tbu_ok w0) (msEnO4_ok hl) (startOk hl lay_ok hp_eq) esEnO4a6_made
/-- circa/units.Filled: 304 operations. -/
noncomputable def esEnO4a7 : List Entry := [⟨[q78, (.agg [q5, q4, q5])], [], q125, []⟩,
  ⟨[q78, (.agg [q134, q4, q5])], [], (.tup [(.agg [q101, (.v (.int .i64 (3652060))), q101, (.v (.int .i64 (3652090)))]), q5]), []⟩]
theorem esEnO4a7_made : madeE tbu (callM tbu msEnO4 100) hp 194 esEnO4a7 = true := by kernel_rfl
theorem esEnO4a7_ok {w0 : World} (hl : laidMet Tryz.prog Rows.ordersKnownRow.laid w0) : EsOk tbu w0 hp 194 esEnO4a7 := madeE_ok (tbu_ok w0) (msEnO4_ok hl) (startOk hl lay_ok hp_eq) esEnO4a7_made
end Ev
end Go.Proofs.YtojihkdonkblaaaGreatDoor

