/- Calls that were reckoned, level 0 (printed by genents.py). -/
import Derived.Test.YtmebmfgmopdieaaGreatDoorKEnAC
/-! Calls that were reckoned, level 0 (printed by genents.py). -/
set_option linter.unusedVariables false
set_option maxRecDepth 1000000
namespace Go.Proofs.YtmebmfgmopdieaaGreatDoor
open Go.RowKit
namespace Ev
/-- circa/yearforms.Check: 3852 operations. -/
noncomputable def esEnA0b0 : List Entry := [⟨[(.agg [q6, q6, q7, q8, q5])], [], q5, []⟩,
  ⟨[(.agg [q1, q6, q7, q8, q5])], [], q5, []⟩,
  ⟨[(.agg [q1, q1, q50, q5, q5])], [], q5, []⟩,
  ⟨[(.agg [q1, q1, q64, q5, q5])], [], q5, []⟩,
  ⟨[(.agg [q1, q6, q81, q5, q5])], [], q5, []⟩]
theorem esEnA0b0_made : madeE tbu (callM tbu .nil 100) hp 153 esEnA0b0 = true := by kernel_rfl
theorem esEnA0b0_ok {w0 : World} (hl : laidMetH Tryz.prog Rows.axesKnownRow.laid w0) : EsOk tbu w0 hp 153 esEnA0b0 := madeE_ok (tbu_ok w0) msOk_nil (start_ok hl) esEnA0b0_made
/-- circa/units.known: 38 operations. -/
noncomputable def esEnA0b1 : List Entry := [⟨[q14], [], q6, []⟩]
theorem esEnA0b1_made : madeE tbu (callM tbu .nil 100) hp 160 esEnA0b1 = true := by kernel_rfl
theorem esEnA0b1_ok {w0 : World} (hl : laidMetH Tryz.prog Rows.axesKnownRow.laid w0) : EsOk tbu w0 hp 160 esEnA0b1 := madeE_ok (tbu_ok w0) msOk_nil (start_ok hl) esEnA0b1_made
/-- circa/dateforms.Season: 1049 operations. -/
noncomputable def esEnA0b2 : List Entry := [⟨[q10], [], q11, []⟩,
  ⟨[q16], [], q11, []⟩,
  ⟨[q51], [], q11, []⟩,
  ⟨[q66], [], q11, []⟩,
  ⟨[q73], [], q11, []⟩,
  ⟨[q82], [], q11, []⟩,
  ⟨[q88], [], q11, []⟩]
theorem esEnA0b2_made : madeE tbu (callM tbu .nil 100) hp 181 esEnA0b2 = true := by kernel_rfl
theorem esEnA0b2_ok {w0 : World} (hl : laidMetH Tryz.prog Rows.axesKnownRow.laid w0) : EsOk tbu w0 hp 181 esEnA0b2 := madeE_ok (tbu_ok w0) msOk_nil (start_ok hl) esEnA0b2_made
/-- circa/dateforms.agrees: 255 operations. -/
noncomputable def esEnA0b3 : List Entry := [⟨[q65, (.v (.int .i64 (12)))], [], q6, []⟩,
  ⟨[q65, q67], [], q6, []⟩,
  ⟨[q72, q67], [], q6, []⟩]
theorem esEnA0b3_made : madeE tbu (callM tbu .nil 100) hp 190 esEnA0b3 = true := by kernel_rfl
theorem esEnA0b3_ok {w0 : World} (hl : laidMetH Tryz.prog Rows.axesKnownRow.laid w0) : EsOk tbu w0 hp 190 esEnA0b3 := madeE_ok (tbu_ok w0) msOk_nil (start_ok hl) esEnA0b3_made
/-- circa/marks.All: 222 operations. -/
noncomputable def esEnA0b4 : List Entry := [⟨[q3, q4], [], q5, []⟩,
  ⟨[q3, q63], [], q5, []⟩]
theorem esEnA0b4_made : madeE tbu (callM tbu .nil 100) hp 191 esEnA0b4 = true := by kernel_rfl
theorem esEnA0b4_ok {w0 : World} (hl : laidMetH Tryz.prog Rows.axesKnownRow.laid w0) : EsOk tbu w0 hp 191 esEnA0b4 := madeE_ok (tbu_ok w0) msOk_nil (start_ok hl) esEnA0b4_made
/-- circa/marks.Of: 686 operations. -/
noncomputable def esEnA0b5 : List Entry := [⟨[(.v (.int .u8 (89)))], [], q2, []⟩,
  ⟨[(.v (.int .u8 (47)))], [], q2, []⟩,
  ⟨[q0], [], q2, []⟩,
  ⟨[(.v (.int .u8 (50)))], [], q2, []⟩,
  ⟨[(.v (.int .u8 (93)))], [], q2, []⟩,
  ⟨[(.v (.int .u8 (48)))], [], q2, []⟩,
  ⟨[(.v (.int .u8 (45)))], [], q2, []⟩]
theorem esEnA0b5_made : madeE tbu (callM tbu .nil 100) hp 240 esEnA0b5 = true := by kernel_rfl
theorem esEnA0b5_ok {w0 : World} (hl : laidMetH Tryz.prog Rows.axesKnownRow.laid w0) : EsOk tbu w0 hp 240 esEnA0b5 := madeE_ok (tbu_ok w0) msOk_nil (start_ok hl) esEnA0b5_made
/-- strings.Map: 4121 operations. -/
noncomputable def esEnA0b6 : List Entry := [⟨[q12, (.v (.string ⟨#[89, 45, 49, 69, 49, 54]⟩))], [], (.v (.string ⟨#[89, 45, 100, 69, 100, 100]⟩)), []⟩,
  ⟨[q12, (.v (.string ⟨#[89, 49, 69, 49, 54]⟩))], [], (.v (.string ⟨#[89, 100, 69, 100, 100]⟩)), []⟩,
  ⟨[q12, q50], [], (.v (.string ⟨#[100, 100, 100, 100]⟩)), []⟩,
  ⟨[q12, q69], [], q70, []⟩,
  ⟨[q12, q75], [], q70, []⟩,
  ⟨[q12, q83], [], (.v (.string ⟨#[89, 100, 100, 100, 100, 100, 100, 100, 100, 100, 100, 100, 100, 100, 100, 100, 100]⟩)), []⟩,
  ⟨[q12, q64], [], (.v (.string ⟨#[100, 100, 100, 100]⟩)), []⟩]
theorem esEnA0b6_made : madeE tbu (callM tbu .nil 100) hp 257 esEnA0b6 = true := by kernel_rfl
theorem esEnA0b6_ok {w0 : World} (hl : laidMetH Tryz.prog Rows.axesKnownRow.laid w0) : EsOk tbu w0 hp 257 esEnA0b6 := madeE_ok (tbu_ok w0) msOk_nil (start_ok hl) esEnA0b6_made
/-- circa/fillings.agrees: 3596 operations. -/
noncomputable def esEnA0b7 : List Entry := [⟨[q65, q4], [], q6, []⟩,
  ⟨[q65, q13], [], q1, []⟩,
  ⟨[q65, q63], [], q1, []⟩,
  ⟨[q65, q59], [], q1, []⟩,
  ⟨[q65, (.v (.int .i64 (5)))], [], q1, []⟩,
  ⟨[q65, (.v (.int .i64 (6)))], [], q1, []⟩,
  ⟨[q65, q58], [], q1, []⟩,
  ⟨[q65, (.v (.int .i64 (8)))], [], q1, []⟩,
  ⟨[q65, (.v (.int .i64 (9)))], [], q1, []⟩,
  ⟨[q65, (.v (.int .i64 (10)))], [], q1, []⟩,
  ⟨[q65, (.v (.int .i64 (11)))], [], q1, []⟩,
  ⟨[q65, (.v (.int .i64 (12)))], [], q1, []⟩,
  ⟨[q65, q57], [], q1, []⟩,
  ⟨[q65, (.v (.int .i64 (14)))], [], q1, []⟩,
  ⟨[q65, (.v (.int .i64 (15)))], [], q1, []⟩,
  ⟨[q65, q8], [], q1, []⟩,
  ⟨[q65, (.v (.int .i64 (17)))], [], q1, []⟩,
  ⟨[q65, (.v (.int .i64 (18)))], [], q1, []⟩,
  ⟨[q65, (.v (.int .i64 (19)))], [], q1, []⟩,
  ⟨[q65, (.v (.int .i64 (20)))], [], q1, []⟩,
  ⟨[q65, (.v (.int .i64 (21)))], [], q1, []⟩,
  ⟨[q65, (.v (.int .i64 (22)))], [], q1, []⟩,
  ⟨[q65, (.v (.int .i64 (23)))], [], q1, []⟩,
  ⟨[q65, (.v (.int .i64 (24)))], [], q1, []⟩,
  ⟨[q65, (.v (.int .i64 (25)))], [], q1, []⟩,
  ⟨[q65, (.v (.int .i64 (26)))], [], q1, []⟩,
  ⟨[q65, (.v (.int .i64 (27)))], [], q1, []⟩,
  ⟨[q65, (.v (.int .i64 (28)))], [], q1, []⟩,
  ⟨[q65, (.v (.int .i64 (29)))], [], q1, []⟩,
  ⟨[q65, (.v (.int .i64 (30)))], [], q1, []⟩,
  ⟨[q65, q67], [], q1, []⟩,
  ⟨[q72, q4], [], q1, []⟩,
  ⟨[q72, q13], [], q6, []⟩,
  ⟨[q72, q63], [], q1, []⟩,
  ⟨[q72, q59], [], q1, []⟩,
  ⟨[q72, (.v (.int .i64 (5)))], [], q1, []⟩,
  ⟨[q72, (.v (.int .i64 (6)))], [], q1, []⟩,
  ⟨[q72, q58], [], q1, []⟩,
  ⟨[q72, (.v (.int .i64 (8)))], [], q1, []⟩,
  ⟨[q72, (.v (.int .i64 (9)))], [], q1, []⟩,
  ⟨[q72, (.v (.int .i64 (10)))], [], q1, []⟩,
  ⟨[q72, (.v (.int .i64 (11)))], [], q1, []⟩,
  ⟨[q72, (.v (.int .i64 (12)))], [], q1, []⟩,
  ⟨[q72, q57], [], q1, []⟩,
  ⟨[q72, (.v (.int .i64 (14)))], [], q1, []⟩,
  ⟨[q72, (.v (.int .i64 (15)))], [], q1, []⟩,
  ⟨[q72, q8], [], q1, []⟩,
  ⟨[q72, (.v (.int .i64 (17)))], [], q1, []⟩,
  ⟨[q72, (.v (.int .i64 (18)))], [], q1, []⟩,
  ⟨[q72, (.v (.int .i64 (19)))], [], q1, []⟩,
  ⟨[q72, (.v (.int .i64 (20)))], [], q1, []⟩,
  ⟨[q72, (.v (.int .i64 (21)))], [], q1, []⟩,
  ⟨[q72, (.v (.int .i64 (22)))], [], q1, []⟩,
  ⟨[q72, (.v (.int .i64 (23)))], [], q1, []⟩,
  ⟨[q72, (.v (.int .i64 (24)))], [], q1, []⟩,
  ⟨[q72, (.v (.int .i64 (25)))], [], q1, []⟩,
  ⟨[q72, (.v (.int .i64 (26)))], [], q1, []⟩,
  ⟨[q72, (.v (.int .i64 (27)))], [], q1, []⟩,
  ⟨[q72, (.v (.int .i64 (28)))], [], q1, []⟩,
  ⟨[q72, (.v (.int .i64 (29)))], [], q1, []⟩,
  ⟨[q72, (.v (.int .i64 (30)))], [], q1, []⟩,
  ⟨[q72, q67], [], q1, []⟩]
theorem esEnA0b7_made : madeE tbu (callM tbu .nil 100) hp 260 esEnA0b7 = true := by kernel_rfl
theorem esEnA0b7_ok {w0 : World} (hl : laidMetH Tryz.prog Rows.axesKnownRow.laid w0) : EsOk tbu w0 hp 260 esEnA0b7 := madeE_ok (tbu_ok w0) msOk_nil (start_ok hl) esEnA0b7_made
/-- circa/years.before: 3402 operations. -/
noncomputable def esEnA0b8 : List Entry := [⟨[q18], [], (.v (.int .i64 (-2425000000000000))), []⟩,
  ⟨[(.v (.int .i64 (-9999999999999999)))], [], (.v (.int .i64 (-2424999999999999))), []⟩,
  ⟨[q21], [], (.v (.int .i64 (2425000000000000))), []⟩,
  ⟨[(.v (.int .i64 (10000000000000001)))], [], (.v (.int .i64 (2425000000000001))), []⟩,
  ⟨[(.v (.int .i64 (2004)))], [], (.v (.int .i64 (486))), []⟩,
  ⟨[(.v (.int .i64 (2005)))], [], (.v (.int .i64 (487))), []⟩,
  ⟨[(.v (.int .i64 (201)))], [], (.v (.int .i64 (49))), []⟩,
  ⟨[(.v (.int .i64 (101)))], [], (.v (.int .i64 (25))), []⟩,
  ⟨[(.v (.int .i64 (51)))], [], q57, []⟩,
  ⟨[(.v (.int .i64 (26)))], [], q58, []⟩,
  ⟨[q57], [], q59, []⟩,
  ⟨[q58], [], q13, []⟩,
  ⟨[q59], [], q4, []⟩,
  ⟨[(.v (.int .i64 (6)))], [], q13, []⟩,
  ⟨[(.v (.int .i64 (5)))], [], q13, []⟩,
  ⟨[q4], [], q4, []⟩,
  ⟨[q5], [], q5, []⟩,
  ⟨[q85], [], (.v (.int .i64 (2425000000000000))), []⟩]
theorem esEnA0b8_made : madeE tbu (callM tbu .nil 100) hp 350 esEnA0b8 = true := by kernel_rfl
theorem esEnA0b8_ok {w0 : World} (hl : laidMetH Tryz.prog Rows.axesKnownRow.laid w0) : EsOk tbu w0 hp 350 esEnA0b8 := madeE_ok (tbu_ok w0) msOk_nil (start_ok hl) esEnA0b8_made
end Ev
end Go.Proofs.YtmebmfgmopdieaaGreatDoor

