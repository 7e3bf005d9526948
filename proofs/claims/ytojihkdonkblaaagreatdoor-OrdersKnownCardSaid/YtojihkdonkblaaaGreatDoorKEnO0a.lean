/- Calls that were reckoned, level 0 (printed by genents.py). -/
import Derived.Test.YtojihkdonkblaaaGreatDoorKEnOC
/-! Calls that were reckoned, level 0 (printed by genents.py). -/
set_option linter.unusedVariables false
set_option maxRecDepth 1000000
namespace Go.Proofs.YtojihkdonkblaaaGreatDoor
open Go.RowKit
namespace Ev
/-- circa/dateforms.Season: 3157 operations. -/
noncomputable def esEnO0a0 : List Entry := [⟨[q9], [], q10, []⟩,
  ⟨[q18], [], q10, []⟩,
  ⟨[q24], [], q10, []⟩,
  ⟨[q28], [], q10, []⟩,
  ⟨[q49], [], q10, []⟩,
  ⟨[q52], [], q10, []⟩,
  ⟨[q56], [], q10, []⟩,
  ⟨[q59], [], q10, []⟩,
  ⟨[q62], [], q10, []⟩,
  ⟨[q69], [], q10, []⟩,
  ⟨[q73], [], q10, []⟩,
  ⟨[q75], [], q10, []⟩,
  ⟨[q78], [], q10, []⟩,
  ⟨[q81], [], q10, []⟩,
  ⟨[q85], [], q10, []⟩,
  ⟨[q89], [], q10, []⟩,
  ⟨[q94], [], q10, []⟩,
  ⟨[q150], [], q10, []⟩,
  ⟨[q154], [], q10, []⟩,
  ⟨[q159], [], q10, []⟩,
  ⟨[q166], [], q10, []⟩]
theorem esEnO0a0_made : madeE tbu (callM tbu .nil 100) hp 60 esEnO0a0 = true := by kernel_rfl
theorem esEnO0a0_ok {w0 : World} (hl : laidMet Tryz.prog Rows.ordersKnownRow.laid w0) : EsOk tbu w0 hp 60 esEnO0a0 := madeE_ok (tbu_ok w0) msOk_nil (startOk hl lay_ok hp_eq) esEnO0a0_made
/-- circa/extents.family: 2391 operations. -/
noncomputable def esEnO0a1 : List Entry := [⟨[q103], [(.row [q104, q5, q101, q98] 64)], (.agg [q104, q5, q101, q98]), []⟩,
  ⟨[q109], [], q110, []⟩,
  ⟨[(.agg [q19, q15, q1, q1, q8, q5, q5, q8, q8, q0, q0, q0, q14, q104, q5, q101, q107])], [], q110, []⟩,
  ⟨[q103], [(.row [q101, (.v (.int .i64 (732677))), q101, (.v (.int .i64 (733041)))] 64)], q112, []⟩,
  ⟨[(.agg [q14, (.sl 14 0 2 2), q1, q1, q8, q5, q5, q8, q8, q0, q0, q0, q0, q101, q5, q101, q5])], [(.rowU [q104, q5, q101, q106, q101, (.v (.int .i64 (733042))), q101, (.v (.int .i64 (733406)))] 4 64)], q114, []⟩,
  ⟨[q103], [(.row [q101, (.v (.int .i64 (-3652425000000000000))), q101, (.v (.int .i64 (-3652424999999999635)))] 64)], q116, []⟩,
  ⟨[q103], [(.row [q101, (.v (.int .i64 (-3652059))), q101, (.v (.int .i64 (-3651695)))] 64)], q117, []⟩,
  ⟨[q103], [(.row [q101, q5, q101, q5] 64)], (.agg [q101, q5, q101, q5]), []⟩,
  ⟨[q103], [(.row [q101, q5, q101, q41] 64)], (.agg [q101, q5, q101, q41]), []⟩,
  ⟨[q103], [(.row [q101, q5, q101, (.v (.int .i64 (365)))] 64)], q127, []⟩,
  ⟨[q103], [(.row [q101, q5, (.v (.int .i8 (1))), q5] 64)], (.agg [q101, q5, (.v (.int .i8 (1))), q5]), []⟩,
  ⟨[q103], [(.row [q101, (.v (.int .i64 (693961))), q101, (.v (.int .i64 (694325)))] 64)], q139, []⟩,
  ⟨[q103], [(.row [q101, (.v (.int .i64 (694019))), q101, (.v (.int .i64 (694019)))] 64)], q140, []⟩,
  ⟨[q103], [(.row [q101, q142, q101, (.v (.int .i64 (3652425000000000365)))] 64)], q143, []⟩,
  ⟨[q144], [], (.agg [q101, q142, (.v (.int .i8 (1))), q5]), []⟩,
  ⟨[q103], [(.row [q101, q106, q101, q107] 64)], (.agg [q101, q106, q101, q107]), []⟩,
  ⟨[q103], [(.row [q101, q106, q101, (.v (.int .i64 (731976)))] 64)], q153, []⟩,
  ⟨[q103], [(.row [q104, q5, q101, q107] 64)], q110, []⟩,
  ⟨[q103], [(.row [q101, q106, (.v (.int .i8 (1))), q5] 64)], (.agg [q101, q106, (.v (.int .i8 (1))), q5]), []⟩,
  ⟨[q103], [(.row [q101, q106, q101, (.v (.int .i64 (732676)))] 64)], q162, []⟩,
  ⟨[q103], [(.row [q101, (.v (.int .i64 (732312))), q101, (.v (.int .i64 (732676)))] 64)], q161, []⟩,
  ⟨[q103], [(.row [q101, (.v (.int .i64 (731915))), q101, (.v (.int .i64 (731945)))] 64)], q170, []⟩]
theorem esEnO0a1_made : madeE tbu (callM tbu .nil 100) hp 70 esEnO0a1 = true := by kernel_rfl
theorem esEnO0a1_ok {w0 : World} (hl : laidMet Tryz.prog Rows.ordersKnownRow.laid w0) : EsOk tbu w0 hp 70 esEnO0a1 := madeE_ok (tbu_ok w0) msOk_nil (startOk hl lay_ok hp_eq) esEnO0a1_made
/-- circa/marks.Of: 1154 operations. -/
noncomputable def esEnO0a2 : List Entry := [⟨[(.v (.int .u8 (45)))], [], q2, []⟩,
  ⟨[q0], [], q2, []⟩,
  ⟨[(.v (.int .u8 (50)))], [], q2, []⟩,
  ⟨[(.v (.int .u8 (93)))], [], q2, []⟩,
  ⟨[(.v (.int .u8 (44)))], [], q2, []⟩,
  ⟨[(.v (.int .u8 (48)))], [], q2, []⟩,
  ⟨[(.v (.int .u8 (125)))], [], q2, []⟩,
  ⟨[(.v (.int .u8 (89)))], [], q2, []⟩,
  ⟨[(.v (.int .u8 (88)))], [], q2, []⟩,
  ⟨[(.v (.int .u8 (47)))], [], q2, []⟩,
  ⟨[(.v (.int .u8 (49)))], [], q2, []⟩,
  ⟨[(.v (.int .u8 (63)))], [], (.tup [q14, q6]), []⟩]
theorem esEnO0a2_made : madeE tbu (callM tbu .nil 100) hp 82 esEnO0a2 = true := by kernel_rfl
theorem esEnO0a2_ok {w0 : World} (hl : laidMet Tryz.prog Rows.ordersKnownRow.laid w0) : EsOk tbu w0 hp 82 esEnO0a2 := madeE_ok (tbu_ok w0) msOk_nil (startOk hl lay_ok hp_eq) esEnO0a2_made
/-- strings.Map: 7375 operations. -/
noncomputable def esEnO0a3 : List Entry := [⟨[q11, q7], [], q12, []⟩,
  ⟨[q11, q17], [], q12, []⟩,
  ⟨[q11, q53], [], (.v (.string ⟨#[89, 45, 100, 69, 100, 100]⟩)), []⟩,
  ⟨[q11, q55], [], q12, []⟩,
  ⟨[q11, q58], [], (.v (.string ⟨#[100, 100, 100, 88]⟩)), []⟩,
  ⟨[q11, q66], [], q67, []⟩,
  ⟨[q11, q70], [], q71, []⟩,
  ⟨[q11, q61], [], q12, []⟩,
  ⟨[q11, q79], [], (.v (.string ⟨#[88, 88, 88, 88, 45, 100, 100]⟩)), []⟩,
  ⟨[q11, q77], [], q77, []⟩,
  ⟨[q11, q84], [], q12, []⟩,
  ⟨[q11, q92], [], q67, []⟩,
  ⟨[q11, q95], [], (.v (.string ⟨#[89, 100, 69, 100, 100]⟩)), []⟩,
  ⟨[q11, q151], [], q71, []⟩,
  ⟨[q11, q158], [], q12, []⟩,
  ⟨[q11, q167], [], q71, []⟩]
theorem esEnO0a3_made : madeE tbu (callM tbu .nil 100) hp 114 esEnO0a3 = true := by kernel_rfl
theorem esEnO0a3_ok {w0 : World} (hl : laidMet Tryz.prog Rows.ordersKnownRow.laid w0) : EsOk tbu w0 hp 114 esEnO0a3 := madeE_ok (tbu_ok w0) msOk_nil (startOk hl lay_ok hp_eq) esEnO0a3_made
/-- circa/families.date: 380 operations. -/
noncomputable def esEnO0a4 : List Entry := [⟨[q59], [], q118, []⟩,
  ⟨[q75], [], q129, []⟩,
  ⟨[q78], [], q132, []⟩,
  ⟨[q81], [], q136, []⟩]
theorem esEnO0a4_made : madeE tbu (callM tbu .nil 100) hp 116 esEnO0a4 = true := by kernel_rfl
theorem esEnO0a4_ok {w0 : World} (hl : laidMet Tryz.prog Rows.ordersKnownRow.laid w0) : EsOk tbu w0 hp 116 esEnO0a4 := madeE_ok (tbu_ok w0) msOk_nil (startOk hl lay_ok hp_eq) esEnO0a4_made
/-- circa/marks.All: 444 operations. -/
noncomputable def esEnO0a5 : List Entry := [⟨[q3, q4], [], q5, []⟩,
  ⟨[q3, q26], [], q5, []⟩,
  ⟨[q3, q22], [], q5, []⟩,
  ⟨[(.agg [q14, q0, q0]), q4], [], q5, []⟩]
theorem esEnO0a5_made : madeE tbu (callM tbu .nil 100) hp 131 esEnO0a5 = true := by kernel_rfl
theorem esEnO0a5_ok {w0 : World} (hl : laidMet Tryz.prog Rows.ordersKnownRow.laid w0) : EsOk tbu w0 hp 131 esEnO0a5 := madeE_ok (tbu_ok w0) msOk_nil (startOk hl lay_ok hp_eq) esEnO0a5_made
/-- circa/dateforms.agrees: 1881 operations. -/
noncomputable def esEnO0a6 : List Entry := [⟨[q27, q29], [], q6, []⟩,
  ⟨[q27, q30], [], q6, []⟩,
  ⟨[q87, q29], [], q6, []⟩,
  ⟨[q88, q30], [], q6, []⟩,
  ⟨[(.v (.string ⟨#[49, 50]⟩)), q29], [], q6, []⟩]
theorem esEnO0a6_made : madeE tbu (callM tbu .nil 100) hp 134 esEnO0a6 = true := by kernel_rfl
theorem esEnO0a6_ok {w0 : World} (hl : laidMet Tryz.prog Rows.ordersKnownRow.laid w0) : EsOk tbu w0 hp 134 esEnO0a6 := madeE_ok (tbu_ok w0) msOk_nil (startOk hl lay_ok hp_eq) esEnO0a6_made
/-- (circa/fillings.form).year: 7218 operations. -/
noncomputable def esEnO0a7 : List Entry := [⟨[q119, q44, q6], [(.row [q5] 3), (.row [q5] 3)], (.tup [q120, q6]), []⟩,
  ⟨[q119, q121, q1], [(.row [q5] 3), (.row [q5] 3)], (.tup [q98, q6]), []⟩,
  ⟨[q119, q120, q6], [(.row [q5] 3), (.row [q5] 3)], (.tup [q120, q6]), []⟩,
  ⟨[q119, q98, q6], [(.row [q5] 3), (.row [q5] 3)], (.tup [q98, q6]), []⟩,
  ⟨[q130, q44, q6], [(.row [q5] 3), (.row [q5] 3)], q65, []⟩,
  ⟨[q130, q121, q1], [(.row [q5] 3), (.row [q5] 3)], (.tup [q36, q6]), []⟩,
  ⟨[q130, q5, q6], [(.row [q5] 3), (.row [q5] 3)], q65, []⟩,
  ⟨[q130, q36, q6], [(.row [q5] 3), (.row [q5] 3)], (.tup [q36, q6]), []⟩,
  ⟨[q133, q44, q6], [(.rowU [q4] 1 3), (.row [q5] 3)], q65, []⟩,
  ⟨[q133, q121, q1], [(.rowU [q4] 1 3), (.row [q5] 3)], (.tup [q134, q6]), []⟩,
  ⟨[q133, q5, q6], [(.rowU [q4] 1 3), (.row [q5] 3)], q65, []⟩,
  ⟨[q133, q134, q6], [(.rowU [q4] 1 3), (.row [q5] 3)], (.tup [q134, q6]), []⟩,
  ⟨[q137, q44, q6], [(.row [q5] 3), (.row [q5] 3)], q65, []⟩,
  ⟨[q137, q121, q1], [(.row [q5] 3), (.row [q5] 3)], (.tup [q134, q6]), []⟩,
  ⟨[q137, q5, q6], [(.row [q5] 3), (.row [q5] 3)], q65, []⟩,
  ⟨[q137, q134, q6], [(.row [q5] 3), (.row [q5] 3)], (.tup [q134, q6]), []⟩]
theorem esEnO0a7_made : madeE tbu (callM tbu .nil 100) hp 140 esEnO0a7 = true := by kernel_rfl
theorem esEnO0a7_ok {w0 : World} (hl : laidMet Tryz.prog Rows.ordersKnownRow.laid w0) : EsOk tbu w0 hp 140 esEnO0a7 := madeE_ok (tbu_ok w0) msOk_nil (startOk hl lay_ok hp_eq) esEnO0a7_made
/-- circa/yearforms.Check: 5304 operations. -/
noncomputable def esEnO0a8 : List Entry := [⟨[(.agg [q6, q1, q7, q5, q5])], [], q5, []⟩,
  ⟨[(.agg [q1, q1, q17, q5, q5])], [], q5, []⟩,
  ⟨[(.agg [q1, q1, q23, q5, q5])], [], q5, []⟩,
  ⟨[(.agg [q1, q1, q48, q5, q5])], [], q5, []⟩,
  ⟨[(.agg [q6, q6, q51, q39, q5])], [], q5, []⟩,
  ⟨[(.agg [q6, q1, q55, q5, q5])], [], q5, []⟩,
  ⟨[(.agg [q6, q1, q58, q5, q5])], [], q5, []⟩,
  ⟨[(.agg [q1, q1, q61, q5, q5])], [], q5, []⟩,
  ⟨[(.agg [q1, q1, q58, q5, q5])], [], q5, []⟩,
  ⟨[(.agg [q1, q1, q77, q5, q5])], [], q5, []⟩,
  ⟨[(.agg [q1, q1, q84, q5, q5])], [], q5, []⟩,
  ⟨[(.agg [q1, q6, q51, q39, q5])], [], q5, []⟩,
  ⟨[(.agg [q1, q1, q158, q5, q5])], [], q5, []⟩,
  ⟨[(.agg [q1, q1, q165, q5, q5])], [], q5, []⟩]
theorem esEnO0a8_made : madeE tbu (callM tbu .nil 100) hp 148 esEnO0a8 = true := by kernel_rfl
theorem esEnO0a8_ok {w0 : World} (hl : laidMet Tryz.prog Rows.ordersKnownRow.laid w0) : EsOk tbu w0 hp 148 esEnO0a8 := madeE_ok (tbu_ok w0) msOk_nil (startOk hl lay_ok hp_eq) esEnO0a8_made
/-- circa/years.before: 4378 operations. -/
noncomputable def esEnO0a9 : List Entry := [⟨[q45], [], q46, []⟩,
  ⟨[q43], [], (.v (.int .i64 (486))), []⟩,
  ⟨[q4], [], q4, []⟩,
  ⟨[q5], [], q5, []⟩,
  ⟨[(.v (.int .i64 (1901)))], [], (.v (.int .i64 (461))), []⟩,
  ⟨[q91], [], (.v (.int .i64 (461))), []⟩,
  ⟨[q98], [], q5, []⟩,
  ⟨[(.v (.int .i64 (2006)))], [], q46, []⟩,
  ⟨[(.v (.int .i64 (2007)))], [], q46, []⟩,
  ⟨[(.v (.int .i64 (2008)))], [], q46, []⟩,
  ⟨[q115], [], (.v (.int .i64 (-2425000000000000))), []⟩,
  ⟨[(.v (.int .i64 (-9999999999999999)))], [], (.v (.int .i64 (-2424999999999999))), []⟩,
  ⟨[(.v (.int .i64 (-9999)))], [], (.v (.int .i64 (-2424))), []⟩,
  ⟨[(.v (.int .i64 (-9998)))], [], (.v (.int .i64 (-2424))), []⟩,
  ⟨[q120], [], (.v (.int .i64 (-2))), []⟩,
  ⟨[(.v (.int .i64 (-8)))], [], (.v (.int .i64 (-2))), []⟩,
  ⟨[q36], [], q26, []⟩,
  ⟨[q37], [], q26, []⟩,
  ⟨[q134], [], (.v (.int .i64 (2425))), []⟩,
  ⟨[(.v (.int .i64 (10000)))], [], (.v (.int .i64 (2425))), []⟩,
  ⟨[q141], [], (.v (.int .i64 (2425000000000000))), []⟩,
  ⟨[(.v (.int .i64 (10000000000000001)))], [], (.v (.int .i64 (2425000000000001))), []⟩,
  ⟨[q169], [], (.v (.int .i64 (486))), []⟩]
theorem esEnO0a9_made : madeE tbu (callM tbu .nil 100) hp 196 esEnO0a9 = true := by kernel_rfl
theorem esEnO0a9_ok {w0 : World} (hl : laidMet Tryz.prog Rows.ordersKnownRow.laid w0) : EsOk tbu w0 hp 196 esEnO0a9 := madeE_ok (tbu_ok w0) msOk_nil (startOk hl lay_ok hp_eq) esEnO0a9_made
/-- circa/fillings.agrees: 4292 operations. -/
noncomputable def esEnO0a10 : List Entry := [⟨[q27, q4], [], q6, []⟩,
  ⟨[q27, q22], [], q1, []⟩,
  ⟨[q27, q26], [], q1, []⟩,
  ⟨[q27, q31], [], q1, []⟩,
  ⟨[q27, q32], [], q1, []⟩,
  ⟨[q27, q33], [], q1, []⟩,
  ⟨[q27, q34], [], q1, []⟩,
  ⟨[q27, q35], [], q1, []⟩,
  ⟨[q27, q36], [], q1, []⟩,
  ⟨[q27, q37], [], q1, []⟩,
  ⟨[q27, q38], [], q1, []⟩,
  ⟨[q27, q29], [], q1, []⟩,
  ⟨[q27, (.v (.int .i64 (13)))], [], q1, []⟩,
  ⟨[q27, (.v (.int .i64 (14)))], [], q1, []⟩,
  ⟨[q27, (.v (.int .i64 (15)))], [], q1, []⟩,
  ⟨[q27, q39], [], q1, []⟩,
  ⟨[q27, (.v (.int .i64 (17)))], [], q1, []⟩,
  ⟨[q27, (.v (.int .i64 (18)))], [], q1, []⟩,
  ⟨[q27, (.v (.int .i64 (19)))], [], q1, []⟩,
  ⟨[q27, (.v (.int .i64 (20)))], [], q1, []⟩,
  ⟨[q27, (.v (.int .i64 (21)))], [], q1, []⟩,
  ⟨[q27, (.v (.int .i64 (22)))], [], q1, []⟩,
  ⟨[q27, (.v (.int .i64 (23)))], [], q1, []⟩,
  ⟨[q27, (.v (.int .i64 (24)))], [], q1, []⟩,
  ⟨[q27, (.v (.int .i64 (25)))], [], q1, []⟩,
  ⟨[q27, (.v (.int .i64 (26)))], [], q1, []⟩,
  ⟨[q27, (.v (.int .i64 (27)))], [], q1, []⟩,
  ⟨[q27, q40], [], q1, []⟩,
  ⟨[q27, (.v (.int .i64 (29)))], [], q1, []⟩,
  ⟨[q27, q41], [], q1, []⟩,
  ⟨[q27, q30], [], q1, []⟩,
  ⟨[q87, q4], [], q1, []⟩,
  ⟨[q87, q22], [], q6, []⟩,
  ⟨[q87, q26], [], q1, []⟩,
  ⟨[q87, q31], [], q1, []⟩,
  ⟨[q87, q32], [], q1, []⟩,
  ⟨[q87, q33], [], q1, []⟩,
  ⟨[q87, q34], [], q1, []⟩,
  ⟨[q87, q35], [], q1, []⟩,
  ⟨[q87, q36], [], q1, []⟩,
  ⟨[q87, q37], [], q1, []⟩,
  ⟨[q87, q38], [], q1, []⟩,
  ⟨[q87, q29], [], q1, []⟩,
  ⟨[q88, q4], [], q1, []⟩,
  ⟨[q88, q22], [], q1, []⟩,
  ⟨[q88, q26], [], q1, []⟩,
  ⟨[q88, q31], [], q1, []⟩,
  ⟨[q88, q32], [], q1, []⟩,
  ⟨[q88, q33], [], q1, []⟩,
  ⟨[q88, q34], [], q1, []⟩,
  ⟨[q88, q35], [], q1, []⟩,
  ⟨[q88, q36], [], q1, []⟩,
  ⟨[q88, q37], [], q1, []⟩,
  ⟨[q88, q38], [], q1, []⟩,
  ⟨[q88, q29], [], q1, []⟩,
  ⟨[q88, (.v (.int .i64 (13)))], [], q1, []⟩,
  ⟨[q88, (.v (.int .i64 (14)))], [], q1, []⟩,
  ⟨[q88, (.v (.int .i64 (15)))], [], q1, []⟩,
  ⟨[q88, q39], [], q1, []⟩,
  ⟨[q88, (.v (.int .i64 (17)))], [], q1, []⟩,
  ⟨[q88, (.v (.int .i64 (18)))], [], q1, []⟩,
  ⟨[q88, (.v (.int .i64 (19)))], [], q1, []⟩,
  ⟨[q88, (.v (.int .i64 (20)))], [], q1, []⟩,
  ⟨[q88, (.v (.int .i64 (21)))], [], q1, []⟩,
  ⟨[q88, (.v (.int .i64 (22)))], [], q1, []⟩,
  ⟨[q88, (.v (.int .i64 (23)))], [], q1, []⟩,
  ⟨[q88, (.v (.int .i64 (24)))], [], q1, []⟩,
  ⟨[q88, (.v (.int .i64 (25)))], [], q1, []⟩,
  ⟨[q88, (.v (.int .i64 (26)))], [], q1, []⟩,
  ⟨[q88, (.v (.int .i64 (27)))], [], q1, []⟩,
  ⟨[q88, q40], [], q6, []⟩,
  ⟨[q88, (.v (.int .i64 (29)))], [], q1, []⟩,
  ⟨[q88, q41], [], q1, []⟩,
  ⟨[q88, q30], [], q1, []⟩]
theorem esEnO0a10_made : madeE tbu (callM tbu .nil 100) hp 198 esEnO0a10 = true := by kernel_rfl
theorem esEnO0a10_ok {w0 : World} (hl : laidMet Tryz.prog Rows.ordersKnownRow.laid w0) : EsOk tbu w0 hp 198 esEnO0a10 := madeE_ok (tbu_ok w0) msOk_nil (startOk hl lay_ok hp_eq) esEnO0a10_made
end Ev
end Go.Proofs.YtojihkdonkblaaaGreatDoor

