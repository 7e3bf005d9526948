/- Calls that were reckoned, level 4 (printed by genents.py). -/
import Derived.Test.YtmebmfgmopdieaaGreatDoorKEnAT4
/-! Calls that were reckoned, level 4 (printed by genents.py). -/
set_option linter.unusedVariables false
set_option maxRecDepth 1000000
namespace Go.Proofs.YtmebmfgmopdieaaGreatDoor
open Go.RowKit
namespace Ev
/-- circa/circalaw36.read: 138 operations. -/
noncomputable def esEnA4a0 : List Entry := [⟨[(.v (.string ⟨#[91, 46, 46, 50, 48, 48, 52, 93]⟩))], [], q53, [(.rowU [q1, q1, q50, q5, q5, q9, q9, q0, q0, q0, q1, q1, q1, q9, q5, q5, q9, q9, q0, q0, q0] 21 123)]⟩,
  ⟨[q83], [], q84, []⟩,
  ⟨[q64], [], q89, []⟩]
theorem esEnA4a0_made : madeE tbu (callM tbu msEnA4 100) hp 16 esEnA4a0 = true := by kernel_rfl
theorem esEnA4a0_ok {w0 : World} (hl : laidMetH Tryz.prog Rows.axesKnownRow.laid w0) : EsOk tbu w0 hp 16 esEnA4a0 := madeE_ok (tbu_ok w0) (msEnA4_ok hl) (start_ok hl) esEnA4a0_made
/-- circa/axes.Inside: 44 operations. -/
noncomputable def esEnA4a1 : List Entry := [⟨[q89, (.v (.float .f64 9221120237041090561))], [], (.tup [q23, q5]), []⟩]
theorem esEnA4a1_made : madeE tbu (callM tbu msEnA4 100) hp 20 esEnA4a1 = true := by kernel_rfl
theorem esEnA4a1_ok {w0 : World} (hl : laidMetH Tryz.prog Rows.axesKnownRow.laid w0) : EsOk tbu w0 hp 20 esEnA4a1 := madeE_ok (tbu_ok w0) (msEnA4_ok hl) (start_ok hl) esEnA4a1_made
/-- circa/parsers.Parse: 3151 operations. -/
noncomputable def esEnA4a2 : List Entry := [⟨[(.v (.string ⟨#[48, 48, 48, 48, 47, 46, 46]⟩))], [], (.tup [q92, q4, q5, q5]), []⟩,
  ⟨[(.v (.string ⟨#[48, 48, 48, 48, 47]⟩))], [], (.tup [q93, q4, q5, q5]), []⟩]
theorem esEnA4a2_made : madeE tbu (callM tbu msEnA4 100) hp 44 esEnA4a2 = true := by kernel_rfl
theorem esEnA4a2_ok {w0 : World} (hl : laidMetH Tryz.prog Rows.axesKnownRow.laid w0) : EsOk tbu w0 hp 44 esEnA4a2 := madeE_ok (tbu_ok w0) (msEnA4_ok hl) (start_ok hl) esEnA4a2_made
/-- circa/families.date: 214 operations. -/
noncomputable def esEnA4a3 : List Entry := [⟨[q82], [], q26, [(.row [q19, (.v (.int .i64 (3652424999999999635))), q19, (.v (.int .i64 (3652424999999999999)))] 26)]⟩,
  ⟨[q88], [], q26, [(.row [q19, q5, q19, (.v (.int .i64 (365)))] 26)]⟩]
theorem esEnA4a3_made : madeE tbu (callM tbu msEnA4 100) hp 73 esEnA4a3 = true := by kernel_rfl
theorem esEnA4a3_ok {w0 : World} (hl : laidMetH Tryz.prog Rows.axesKnownRow.laid w0) : EsOk tbu w0 hp 73 esEnA4a3 := madeE_ok (tbu_ok w0) (msEnA4_ok hl) (start_ok hl) esEnA4a3_made
/-- circa/families.interval: 680 operations. -/
noncomputable def esEnA4a4 : List Entry := [⟨[q25], [], q26, [(.row [q19, (.v (.int .i64 (-3652425000000000000))), q19, (.v (.int .i64 (3652425000000000365)))] 26)]⟩,
  ⟨[q62], [], q26, [(.row [(.v (.int .i8 (-1))), q5, q19, q55] 26)]⟩,
  ⟨[q92], [], q26, [(.row [q19, q5, (.v (.int .i8 (1))), q5] 26)]⟩,
  ⟨[q93], [], (.agg [(.v (.int .u8 (5))), q24, q1, q1, q9, q5, q5, q9, q9, q0, q0, q0, q0, q19, q5, (.v (.int .i8 (1))), q5]), []⟩]
theorem esEnA4a4_made : madeE tbu (callM tbu msEnA4 100) hp 74 esEnA4a4 = true := by kernel_rfl
theorem esEnA4a4_ok {w0 : World} (hl : laidMetH Tryz.prog Rows.axesKnownRow.laid w0) : EsOk tbu w0 hp 74 esEnA4a4 := madeE_ok (tbu_ok w0) (msEnA4_ok hl) (start_ok hl) esEnA4a4_made
/-- circa/families.span: 54 operations. -/
noncomputable def esEnA4a5 : List Entry := [⟨[(.agg [q1, q1, q50, q5, q5, q9, q9, q0, q0, q0, q1, q1, q1, q9, q5, q5, q9, q9, q0, q0, q0]), q6, q1], [], (.agg [(.v (.int .i8 (-1))), q5, q19, q55]), []⟩]
theorem esEnA4a5_made : madeE tbu (callM tbu msEnA4 100) hp 76 esEnA4a5 = true := by kernel_rfl
theorem esEnA4a5_ok {w0 : World} (hl : laidMetH Tryz.prog Rows.axesKnownRow.laid w0) : EsOk tbu w0 hp 76 esEnA4a5 := madeE_ok (tbu_ok w0) (msEnA4_ok hl) (start_ok hl) esEnA4a5_made
/-- circa/bounds.Pair: 582 operations. -/
noncomputable def esEnA4a6 : List Entry := [⟨[q15, q17], [], q5, []⟩,
  ⟨[q61, q60], [], q5, []⟩,
  ⟨[q91, q61], [], q5, []⟩,
  ⟨[q91, q94], [], q5, []⟩]
theorem esEnA4a6_made : madeE tbu (callM tbu msEnA4 100) hp 100 esEnA4a6 = true := by kernel_rfl
theorem esEnA4a6_ok {w0 : World} (hl : laidMetH Tryz.prog Rows.axesKnownRow.laid w0) : EsOk tbu w0 hp 100 esEnA4a6 := madeE_ok (tbu_ok w0) (msEnA4_ok hl) (start_ok hl) esEnA4a6_made
/-- (circa/fillings.form).seek: 306 operations. -/
noncomputable def esEnA4a7 : List Entry := [⟨[q68, (.agg [q30, q5, q5]), q6], [(.rowU [q4] 1 3), (.rowU [q4] 1 3)], (.tup [(.agg [q5, q4, q4]), q6]), []⟩,
  ⟨[q74, (.agg [q30, q5, q5]), q6], [(.rowU [q4] 1 3), (.rowU [q13] 1 3)], (.tup [(.agg [q5, q4, q13]), q6]), []⟩]
theorem esEnA4a7_made : madeE tbu (callM tbu msEnA4 100) hp 140 esEnA4a7 = true := by kernel_rfl
theorem esEnA4a7_ok {w0 : World} (hl : laidMetH Tryz.prog Rows.axesKnownRow.laid w0) : EsOk tbu w0 hp 140 esEnA4a7 := madeE_ok (tbu_ok w0) (msEnA4_ok hl) (start_ok hl) esEnA4a7_made
end Ev
end Go.Proofs.YtmebmfgmopdieaaGreatDoor

