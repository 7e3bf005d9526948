/- Calls that were reckoned, level 4 (printed by genents.py). -/
import Derived.Test.YtlglepkdipapiaaGreatDoorKEnST4
/-! Calls that were reckoned, level 4 (printed by genents.py). -/
set_option linter.unusedVariables false
set_option maxRecDepth 1000000
namespace Go.Proofs.YtlglepkdipapiaaGreatDoor
open Go.RowKit
namespace Ev
/-- circa/circalaw37.read: 460 operations. -/
noncomputable def esEnS4a0 : List Entry := [⟨[(.v (.string ⟨#[91, 50, 48, 48, 52, 45, 48, 49, 44, 50, 48, 48, 52, 45, 48, 50, 93]⟩))], [], q219, [(.rowU [q1, q1, q6, q5, q5, q194, q7, q0, q0, q0, q1, q1, q1, q7, q5, q5, q7, q7, q0, q0, q0, q1, q1, q6, q5, q5, q147, q7, q0, q0, q0, q1, q1, q1, q7, q5, q5, q7, q7, q0, q0, q0] 21 102)]⟩,
  ⟨[q230], [], q231, []⟩,
  ⟨[(.v (.string ⟨#[91, 50, 48, 48, 52, 44, 50, 48, 48, 52, 45, 48, 50, 93]⟩))], [], q219, [(.rowU [q1, q1, q6, q5, q5, q7, q7, q0, q0, q0, q1, q1, q1, q7, q5, q5, q7, q7, q0, q0, q0, q1, q1, q6, q5, q5, q147, q7, q0, q0, q0, q1, q1, q1, q7, q5, q5, q7, q7, q0, q0, q0] 21 102)]⟩,
  ⟨[q33], [], q35, []⟩,
  ⟨[(.v (.string ⟨#[47, 50, 48, 48, 52]⟩))], [], q233, []⟩,
  ⟨[(.v (.string ⟨#[123, 50, 48, 48, 49, 44, 50, 48, 48, 51, 125]⟩))], [], q236, [(.rowU [q1, q1, q25, q5, q5, q7, q7, q0, q0, q0, q1, q1, q1, q7, q5, q5, q7, q7, q0, q0, q0, q1, q1, q234, q5, q5, q7, q7, q0, q0, q0, q1, q1, q1, q7, q5, q5, q7, q7, q0, q0, q0] 21 102)]⟩,
  ⟨[q238], [], q239, []⟩,
  ⟨[q242], [], q243, []⟩,
  ⟨[(.v (.string ⟨#[50, 48, 48, 52, 47, 46, 46]⟩))], [], q245, []⟩,
  ⟨[(.v (.string ⟨#[91, 50, 48, 48, 52, 44, 50, 48, 48, 52, 93]⟩))], [], q219, [(.rowU [q1, q1, q6, q5, q5, q7, q7, q0, q0, q0, q1, q1, q1, q7, q5, q5, q7, q7, q0, q0, q0, q1, q1, q6, q5, q5, q7, q7, q0, q0, q0, q1, q1, q1, q7, q5, q5, q7, q7, q0, q0, q0] 21 102)]⟩]
theorem esEnS4a0_made : madeE tbu (callM tbu msEnS4 100) hp 11 esEnS4a0 = true := by kernel_rfl
theorem esEnS4a0_ok {w0 : World} (hl : laidMetH Tryz.prog Rows.suresKnownRow.laid w0) : EsOk tbu w0 hp 11 esEnS4a0 := madeE_ok (tbu_ok w0) (msEnS4_ok hl) (start_ok hl) esEnS4a0_made
/-- circa/circalaw37.run: 2093 operations. -/
noncomputable def esEnS4a1 : List Entry := [⟨[q15, q4, q111, q15, q4, q111], [], q215, []⟩,
  ⟨[q15, q63, q4, q15, q63, q136], [], q137, []⟩,
  ⟨[q15, q94, q111, q15, q94, q111], [], q228, []⟩,
  ⟨[q28, q4, q4, q28, q94, q111], [], q31, []⟩,
  ⟨[q171, q4, q4, q171, q94, q111], [], q229, []⟩]
theorem esEnS4a1_made : madeE tbu (callM tbu msEnS4 100) hp 13 esEnS4a1 = true := by kernel_rfl
theorem esEnS4a1_ok {w0 : World} (hl : laidMetH Tryz.prog Rows.suresKnownRow.laid w0) : EsOk tbu w0 hp 13 esEnS4a1 := madeE_ok (tbu_ok w0) (msEnS4_ok hl) (start_ok hl) esEnS4a1_made
/-- circa/families.Of: 500 operations. -/
noncomputable def esEnS4a2 : List Entry := [⟨[q35], [], q23, [(.row [q36, q13, q1, q1, q33, q5, q5, q7, q7, q0, q0, q0, q0, q19, q5, q19, q5] 72)]⟩,
  ⟨[q83], [], q23, [(.row [q36, q13, q1, q1, q81, q5, q5, q7, q7, q0, q0, q0, q0, q19, q5, q19, q5] 72)]⟩,
  ⟨[q90], [], q23, [(.row [q36, q13, q1, q1, q88, q5, q5, q7, q7, q0, q0, q0, q0, q19, q5, q19, q5] 72)]⟩,
  ⟨[q97], [], q23, [(.row [q36, q13, q1, q1, q25, q5, q5, q92, q7, q0, q0, q0, q0, q19, q5, q19, q5] 72)]⟩,
  ⟨[q125], [], q23, [(.row [q36, q13, q1, q1, q25, q5, q5, q122, q7, q0, q0, q0, q0, q19, q5, q19, q5] 72)]⟩,
  ⟨[q130], [], q23, [(.row [q36, q13, q1, q1, q6, q5, q5, q127, q7, q0, q0, q0, q0, q19, q5, q19, q5] 72)]⟩,
  ⟨[q168], [], q23, [(.row [q36, q13, q1, q1, q33, q5, q5, q164, q7, q0, q0, q0, q0, q19, q5, q19, q5] 72)]⟩,
  ⟨[q204], [], q23, [(.row [q61, q13, q1, q1, q7, q5, q5, q7, q7, q0, q0, q0, q12, q19, q70, q19, (.v (.int .i64 (730484)))] 72)]⟩,
  ⟨[q239], [], q23, [(.row [q36, q13, q1, q1, q6, q5, q5, q92, q7, q0, q0, q0, q0, q19, q5, q19, q5] 72)]⟩,
  ⟨[q243], [], q23, [(.row [q36, q13, q1, q1, q33, q5, q5, q147, q7, q0, q0, q0, q0, q19, q5, q19, q5] 72)]⟩]
theorem esEnS4a2_made : madeE tbu (callM tbu msEnS4 100) hp 18 esEnS4a2 = true := by kernel_rfl
theorem esEnS4a2_ok {w0 : World} (hl : laidMetH Tryz.prog Rows.suresKnownRow.laid w0) : EsOk tbu w0 hp 18 esEnS4a2 := madeE_ok (tbu_ok w0) (msEnS4_ok hl) (start_ok hl) esEnS4a2_made
/-- circa/families.date: 214 operations. -/
noncomputable def esEnS4a3 : List Entry := [⟨[q8], [], q22, [(.row [q19, q20, q19, q21] 54)]⟩,
  ⟨[q26], [], q22, [(.row [q19, (.v (.int .i64 (730851))), q19, (.v (.int .i64 (731215)))] 54)]⟩]
theorem esEnS4a3_made : madeE tbu (callM tbu msEnS4 100) hp 38 esEnS4a3 = true := by kernel_rfl
theorem esEnS4a3_ok {w0 : World} (hl : laidMetH Tryz.prog Rows.suresKnownRow.laid w0) : EsOk tbu w0 hp 38 esEnS4a3 := madeE_ok (tbu_ok w0) (msEnS4_ok hl) (start_ok hl) esEnS4a3_made
/-- circa/families.interval: 730 operations. -/
noncomputable def esEnS4a4 : List Entry := [⟨[q54], [], q22, [(.row [q19, q55, q19, (.v (.int .i64 (695420)))] 54)]⟩,
  ⟨[q190], [], q22, [(.row [q19, (.v (.int .i64 (-3652425000000000000))), q19, (.v (.int .i64 (3652425000000000365)))] 54)]⟩,
  ⟨[q233], [], (.agg [(.v (.int .u8 (4))), q13, q1, q1, q7, q5, q5, q7, q7, q0, q0, q0, q0, (.v (.int .i8 (-1))), q5, q19, q21]), []⟩,
  ⟨[q245], [], q22, [(.row [q19, q20, (.v (.int .i8 (1))), q5] 54)]⟩]
theorem esEnS4a4_made : madeE tbu (callM tbu msEnS4 100) hp 39 esEnS4a4 = true := by kernel_rfl
theorem esEnS4a4_ok {w0 : World} (hl : laidMetH Tryz.prog Rows.suresKnownRow.laid w0) : EsOk tbu w0 hp 39 esEnS4a4 := madeE_ok (tbu_ok w0) (msEnS4_ok hl) (start_ok hl) esEnS4a4_made
/-- circa/families.span: 274 operations. -/
noncomputable def esEnS4a5 : List Entry := [⟨[(.agg [q1, q1, q47, q5, q5, q7, q7, q0, q0, q0, q40, q1, q1, q49, q5, q5, q7, q7, q0, q0, q0]), q1, q1], [], (.agg [q19, q55, q19, (.v (.int .i64 (695420)))]), []⟩,
  ⟨[(.agg [q1, q1, q47, q5, q5, q7, q7, q0, q0, q0, q40, q1, q1, q75, q5, q5, q7, q7, q0, q0, q0]), q1, q1], [], (.agg [q19, q55, q19, (.v (.int .i64 (695786)))]), []⟩,
  ⟨[(.agg [q1, q1, q6, q5, q5, q7, q7, q0, q0, q0, q1, q1, q1, q7, q5, q5, q7, q7, q0, q0, q0]), q40, q1], [], (.agg [(.v (.int .i8 (-1))), q5, q19, q21]), []⟩,
  ⟨[(.agg [q1, q1, q25, q5, q5, q7, q7, q0, q0, q0, q1, q1, q1, q7, q5, q5, q7, q7, q0, q0, q0]), q1, q1], [], q31, []⟩,
  ⟨[(.agg [q1, q1, q234, q5, q5, q7, q7, q0, q0, q0, q1, q1, q1, q7, q5, q5, q7, q7, q0, q0, q0]), q1, q1], [], q229, []⟩]
theorem esEnS4a5_made : madeE tbu (callM tbu msEnS4 100) hp 41 esEnS4a5 = true := by kernel_rfl
theorem esEnS4a5_ok {w0 : World} (hl : laidMetH Tryz.prog Rows.suresKnownRow.laid w0) : EsOk tbu w0 hp 41 esEnS4a5 := madeE_ok (tbu_ok w0) (msEnS4_ok hl) (start_ok hl) esEnS4a5_made
/-- circa/units.Filled: 5776 operations. -/
noncomputable def esEnS4a6 : List Entry := [⟨[q93, q109], [], q112, []⟩,
  ⟨[q93, q114], [], q118, []⟩,
  ⟨[q123, q109], [], q112, []⟩,
  ⟨[q123, q114], [], q118, []⟩,
  ⟨[q128, q133], [], q138, []⟩,
  ⟨[q128, q141], [], q143, []⟩,
  ⟨[q165, (.agg [q41, q152, q5])], [], (.tup [(.agg [q19, (.v (.int .i64 (730820))), q19, (.v (.int .i64 (730909)))]), q5]), []⟩,
  ⟨[q165, (.agg [q28, q152, q5])], [], (.tup [(.agg [q19, (.v (.int .i64 (731185))), q19, (.v (.int .i64 (731274)))]), q5]), []⟩,
  ⟨[q165, (.agg [q29, q152, q5])], [], (.tup [(.agg [q19, (.v (.int .i64 (731550))), q19, (.v (.int .i64 (731639)))]), q5]), []⟩,
  ⟨[q165, (.agg [q171, q152, q5])], [], (.tup [(.agg [q19, (.v (.int .i64 (731915))), q19, (.v (.int .i64 (732005)))]), q5]), []⟩,
  ⟨[q165, (.agg [q15, q152, q5])], [], (.tup [(.agg [q19, (.v (.int .i64 (732281))), q19, (.v (.int .i64 (732370)))]), q5]), []⟩,
  ⟨[q165, (.agg [q17, q152, q5])], [], (.tup [(.agg [q19, (.v (.int .i64 (732646))), q19, (.v (.int .i64 (732735)))]), q5]), []⟩,
  ⟨[q165, (.agg [q173, q152, q5])], [], (.tup [(.agg [q19, (.v (.int .i64 (733011))), q19, (.v (.int .i64 (733100)))]), q5]), []⟩,
  ⟨[q165, (.agg [q174, q152, q5])], [], (.tup [(.agg [q19, (.v (.int .i64 (733376))), q19, (.v (.int .i64 (733466)))]), q5]), []⟩,
  ⟨[q165, (.agg [q175, q152, q5])], [], (.tup [(.agg [q19, (.v (.int .i64 (733742))), q19, (.v (.int .i64 (733831)))]), q5]), []⟩,
  ⟨[q165, (.agg [q176, q152, q5])], [], (.tup [(.agg [q19, (.v (.int .i64 (734107))), q19, (.v (.int .i64 (734196)))]), q5]), []⟩,
  ⟨[q237, q221], [], q222, []⟩,
  ⟨[q237, q133], [], q138, []⟩,
  ⟨[q237, q140], [], (.tup [(.agg [q19, (.v (.int .i64 (732006))), q19, (.v (.int .i64 (732036)))]), q5]), []⟩,
  ⟨[q237, (.agg [q15, q100, q5])], [], (.tup [(.agg [q19, (.v (.int .i64 (732037))), q19, (.v (.int .i64 (732066)))]), q5]), []⟩,
  ⟨[q237, (.agg [q15, q101, q5])], [], (.tup [(.agg [q19, (.v (.int .i64 (732067))), q19, (.v (.int .i64 (732097)))]), q5]), []⟩,
  ⟨[q237, (.agg [q15, q102, q5])], [], (.tup [(.agg [q19, (.v (.int .i64 (732098))), q19, (.v (.int .i64 (732127)))]), q5]), []⟩,
  ⟨[q237, (.agg [q15, q103, q5])], [], (.tup [(.agg [q19, (.v (.int .i64 (732128))), q19, (.v (.int .i64 (732158)))]), q5]), []⟩,
  ⟨[q237, (.agg [q15, q104, q5])], [], (.tup [(.agg [q19, (.v (.int .i64 (732159))), q19, (.v (.int .i64 (732189)))]), q5]), []⟩,
  ⟨[q237, (.agg [q15, q105, q5])], [], (.tup [(.agg [q19, (.v (.int .i64 (732190))), q19, (.v (.int .i64 (732219)))]), q5]), []⟩,
  ⟨[q237, (.agg [q15, q106, q5])], [], (.tup [(.agg [q19, (.v (.int .i64 (732220))), q19, (.v (.int .i64 (732250)))]), q5]), []⟩,
  ⟨[q237, (.agg [q15, q107, q5])], [], (.tup [(.agg [q19, (.v (.int .i64 (732251))), q19, (.v (.int .i64 (732280)))]), q5]), []⟩,
  ⟨[q237, q141], [], q143, []⟩,
  ⟨[q241, (.agg [q41, q63, q5])], [], (.tup [(.agg [q19, (.v (.int .i64 (730516))), q19, (.v (.int .i64 (730544)))]), q5]), []⟩,
  ⟨[q241, q114], [], q118, []⟩,
  ⟨[q241, (.agg [q29, q63, q5])], [], (.tup [(.agg [q19, (.v (.int .i64 (731247))), q19, (.v (.int .i64 (731274)))]), q5]), []⟩,
  ⟨[q241, (.agg [q171, q63, q5])], [], (.tup [(.agg [q19, (.v (.int .i64 (731612))), q19, (.v (.int .i64 (731639)))]), q5]), []⟩,
  ⟨[q241, q133], [], q138, []⟩,
  ⟨[q241, (.agg [q17, q63, q5])], [], (.tup [(.agg [q19, (.v (.int .i64 (732343))), q19, (.v (.int .i64 (732370)))]), q5]), []⟩,
  ⟨[q241, (.agg [q173, q63, q5])], [], (.tup [(.agg [q19, (.v (.int .i64 (732708))), q19, (.v (.int .i64 (732735)))]), q5]), []⟩,
  ⟨[q241, (.agg [q174, q63, q5])], [], (.tup [(.agg [q19, (.v (.int .i64 (733073))), q19, (.v (.int .i64 (733100)))]), q5]), []⟩,
  ⟨[q241, (.agg [q175, q63, q5])], [], (.tup [(.agg [q19, (.v (.int .i64 (733438))), q19, (.v (.int .i64 (733466)))]), q5]), []⟩,
  ⟨[q241, (.agg [q176, q63, q5])], [], (.tup [(.agg [q19, (.v (.int .i64 (733804))), q19, (.v (.int .i64 (733831)))]), q5]), []⟩]
theorem esEnS4a6_made : madeE tbu (callM tbu msEnS4 100) hp 47 esEnS4a6 = true := by kernel_rfl
theorem esEnS4a6_ok {w0 : World} (hl : laidMetH Tryz.prog Rows.suresKnownRow.laid w0) : EsOk tbu w0 hp 47 esEnS4a6 := madeE_ok (tbu_ok w0) (msEnS4_ok hl) (start_ok hl) esEnS4a6_made
/-- circa/units.Holding: 706 operations. -/
noncomputable def esEnS4a7 : List Entry := [⟨[q116, q36], [], q118, []⟩,
  ⟨[(.v (.int .i64 (730910))), q36], [], (.tup [q184, q5]), []⟩]
theorem esEnS4a7_made : madeE tbu (callM tbu msEnS4 100) hp 49 esEnS4a7 = true := by kernel_rfl
theorem esEnS4a7_ok {w0 : World} (hl : laidMetH Tryz.prog Rows.suresKnownRow.laid w0) : EsOk tbu w0 hp 49 esEnS4a7 := madeE_ok (tbu_ok w0) (msEnS4_ok hl) (start_ok hl) esEnS4a7_made
/-- circa/seeks.First: 646 operations. -/
noncomputable def esEnS4a8 : List Entry := [⟨[q37], [], (.tup [q44, q40, q5]), []⟩]
theorem esEnS4a8_made : madeE tbu (callM tbu msEnS4 100) hp 51 esEnS4a8 = true := by kernel_rfl
theorem esEnS4a8_ok {w0 : World} (hl : laidMetH Tryz.prog Rows.suresKnownRow.laid w0) : EsOk tbu w0 hp 51 esEnS4a8 := madeE_ok (tbu_ok w0) (msEnS4_ok hl) (start_ok hl) esEnS4a8_made
/-- circa/seeks.Last: 646 operations. -/
noncomputable def esEnS4a9 : List Entry := [⟨[q37], [], (.tup [q232, q40, q5]), []⟩]
theorem esEnS4a9_made : madeE tbu (callM tbu msEnS4 100) hp 52 esEnS4a9 = true := by kernel_rfl
theorem esEnS4a9_ok {w0 : World} (hl : laidMetH Tryz.prog Rows.suresKnownRow.laid w0) : EsOk tbu w0 hp 52 esEnS4a9 := madeE_ok (tbu_ok w0) (msEnS4_ok hl) (start_ok hl) esEnS4a9_made
/-- circa/units.Of: 1024 operations. -/
noncomputable def esEnS4a10 : List Entry := [⟨[q179], [], q138, []⟩,
  ⟨[q181], [], q118, []⟩,
  ⟨[q182], [], q183, []⟩,
  ⟨[q218], [], q222, []⟩]
theorem esEnS4a10_made : madeE tbu (callM tbu msEnS4 100) hp 74 esEnS4a10 = true := by kernel_rfl
theorem esEnS4a10_ok {w0 : World} (hl : laidMetH Tryz.prog Rows.suresKnownRow.laid w0) : EsOk tbu w0 hp 74 esEnS4a10 := madeE_ok (tbu_ok w0) (msEnS4_ok hl) (start_ok hl) esEnS4a10_made
/-- circa/fillings.Check: 42 operations. -/
noncomputable def esEnS4a11 : List Entry := [⟨[q158], [], q5, []⟩]
theorem esEnS4a11_made : madeE tbu (callM tbu msEnS4 100) hp 79 esEnS4a11 = true := by kernel_rfl
theorem esEnS4a11_ok {w0 : World} (hl : laidMetH Tryz.prog Rows.suresKnownRow.laid w0) : EsOk tbu w0 hp 79 esEnS4a11 := madeE_ok (tbu_ok w0) (msEnS4_ok hl) (start_ok hl) esEnS4a11_made
/-- (circa/fillings.form).seek: 3248 operations. -/
noncomputable def esEnS4a12 : List Entry := [⟨[q155, q43, q40], [(.rowU [q63] 1 3), (.rowU [q136] 1 3)], (.tup [(.agg [q5, q63, q136]), q40]), []⟩,
  ⟨[q155, (.agg [q5, q63, q136]), q40], [(.rowU [q63] 1 3), (.rowU [q136] 1 3)], (.tup [(.agg [q5, q63, q136]), q40]), []⟩,
  ⟨[q155, (.agg [q5, q63, q142]), q40], [(.rowU [q63] 1 3), (.rowU [q136] 1 3)], (.tup [(.agg [q100, q63, q136]), q40]), []⟩,
  ⟨[q196, q43, q40], [(.rowU [q4] 1 3), (.rowU [q4] 1 3)], (.tup [(.agg [q15, q4, q4]), q40]), []⟩,
  ⟨[q208, q43, q40], [(.rowU [q4, q107] 1 3), (.rowU [q111] 1 3)], q210, []⟩,
  ⟨[q208, q209, q40], [(.rowU [q4, q107] 1 3), (.rowU [q111] 1 3)], q210, []⟩,
  ⟨[q208, (.agg [q216, q5, q5]), q1], [(.rowU [q4, q107] 1 3), (.rowU [q111] 1 3)], q210, []⟩,
  ⟨[q225, q43, q40], [(.rowU [q4] 1 3), (.rowU [q111] 1 3)], q210, []⟩,
  ⟨[q247, q43, q40], [(.rowU [q4, q63, q99, q100, q101, q102, q103, q104, q105, q106, q107, q94] 1 3), (.rowU [q111] 1 3)], q210, []⟩,
  ⟨[q247, q209, q40], [(.rowU [q4, q63, q99, q100, q101, q102, q103, q104, q105, q106, q107, q94] 1 3), (.rowU [q111] 1 3)], q210, []⟩,
  ⟨[q247, (.agg [q216, q5, q5]), q1], [(.rowU [q4, q63, q99, q100, q101, q102, q103, q104, q105, q106, q107, q94] 1 3), (.rowU [q111] 1 3)], (.tup [(.agg [q15, q94, q111]), q40]), []⟩,
  ⟨[q247, (.agg [q15, q94, q111]), q40], [(.rowU [q4, q63, q99, q100, q101, q102, q103, q104, q105, q106, q107, q94] 1 3), (.rowU [q111] 1 3)], (.tup [(.agg [q15, q94, q111]), q40]), []⟩]
theorem esEnS4a12_made : madeE tbu (callM tbu msEnS4 100) hp 92 esEnS4a12 = true := by kernel_rfl
theorem esEnS4a12_ok {w0 : World} (hl : laidMetH Tryz.prog Rows.suresKnownRow.laid w0) : EsOk tbu w0 hp 92 esEnS4a12 := madeE_ok (tbu_ok w0) (msEnS4_ok hl) (start_ok hl) esEnS4a12_made
end Ev
end Go.Proofs.YtlglepkdipapiaaGreatDoor

