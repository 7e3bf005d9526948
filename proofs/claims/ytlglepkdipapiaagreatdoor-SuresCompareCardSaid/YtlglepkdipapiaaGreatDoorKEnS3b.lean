/- Calls that were reckoned, level 3 (printed by genents.py). -/
import Derived.Test.YtlglepkdipapiaaGreatDoorKEnST3
/-! Calls that were reckoned, level 3 (printed by genents.py). -/
set_option linter.unusedVariables false
set_option maxRecDepth 1000000
namespace Go.Proofs.YtlglepkdipapiaaGreatDoor
open Go.RowKit
namespace Ev
/-- circa/parsers.Parse: 24836 operations. -/
noncomputable def esEnS3b0 : List Entry := [⟨[(.v (.string ⟨#[91, 50, 48, 48, 52, 45, 48, 49, 44, 50, 48, 48, 52, 45, 48, 50, 93]⟩))], [], q220, [(.rowU [q1, q1, q6, q5, q5, q194, q7, q0, q0, q0, q1, q1, q1, q7, q5, q5, q7, q7, q0, q0, q0, q1, q1, q6, q5, q5, q147, q7, q0, q0, q0, q1, q1, q1, q7, q5, q5, q7, q7, q0, q0, q0] 21 102)]⟩,
  ⟨[q230], [], (.tup [q231, q5, q5, q5]), []⟩,
  ⟨[(.v (.string ⟨#[91, 50, 48, 48, 52, 44, 50, 48, 48, 52, 45, 48, 50, 93]⟩))], [], q220, [(.rowU [q1, q1, q6, q5, q5, q7, q7, q0, q0, q0, q1, q1, q1, q7, q5, q5, q7, q7, q0, q0, q0, q1, q1, q6, q5, q5, q147, q7, q0, q0, q0, q1, q1, q1, q7, q5, q5, q7, q7, q0, q0, q0] 21 102)]⟩,
  ⟨[(.v (.string ⟨#[47, 50, 48, 48, 52]⟩))], [], (.tup [q233, q4, q5, q5]), []⟩,
  ⟨[(.v (.string ⟨#[123, 50, 48, 48, 49, 44, 50, 48, 48, 51, 125]⟩))], [], (.tup [q236, q63, q5, q5]), [(.rowU [q1, q1, q25, q5, q5, q7, q7, q0, q0, q0, q1, q1, q1, q7, q5, q5, q7, q7, q0, q0, q0, q1, q1, q234, q5, q5, q7, q7, q0, q0, q0, q1, q1, q1, q7, q5, q5, q7, q7, q0, q0, q0] 21 102)]⟩,
  ⟨[q238], [], (.tup [q239, q4, q5, q5]), []⟩,
  ⟨[q242], [], (.tup [q243, q63, q5, q5]), []⟩,
  ⟨[(.v (.string ⟨#[50, 48, 48, 52, 47, 46, 46]⟩))], [], (.tup [q245, q4, q5, q5]), []⟩,
  ⟨[(.v (.string ⟨#[91, 50, 48, 48, 52, 44, 50, 48, 48, 52, 93]⟩))], [], q220, [(.rowU [q1, q1, q6, q5, q5, q7, q7, q0, q0, q0, q1, q1, q1, q7, q5, q5, q7, q7, q0, q0, q0, q1, q1, q6, q5, q5, q7, q7, q0, q0, q0, q1, q1, q1, q7, q5, q5, q7, q7, q0, q0, q0] 21 102)]⟩]
theorem esEnS3b0_made : madeE tbu (callM tbu msEnS3 100) hp 8 esEnS3b0 = true := by kernel_rfl
theorem esEnS3b0_ok {w0 : World} (hl : laidMetH Tryz.prog Rows.suresKnownRow.laid w0) : EsOk tbu w0 hp 8 esEnS3b0 := madeE_ok (tbu_ok w0) (msEnS3_ok hl) (start_ok hl) esEnS3b0_made
/-- circa/exprs.Check: 24277 operations. -/
noncomputable def esEnS3b1 : List Entry := [⟨[q14], [], q5, []⟩,
  ⟨[q27], [], q5, []⟩,
  ⟨[q35], [], q5, []⟩,
  ⟨[q54], [], q5, []⟩,
  ⟨[q62], [(.rowU [q1, q1, q47, q5, q5, q7, q7, q0, q0, q0, q40, q1, q1, q49, q5, q5, q7, q7, q0, q0, q0] 21 102)], q5, []⟩,
  ⟨[q62], [(.rowU [q1, q1, q47, q5, q5, q7, q7, q0, q0, q0, q40, q1, q1, q75, q5, q5, q7, q7, q0, q0, q0] 21 102)], q5, []⟩,
  ⟨[q83], [], q5, []⟩,
  ⟨[q90], [], q5, []⟩,
  ⟨[q97], [], q5, []⟩,
  ⟨[q125], [], q5, []⟩,
  ⟨[q130], [], q5, []⟩,
  ⟨[q168], [], q5, []⟩,
  ⟨[q178], [(.rowU [q1, q1, q6, q5, q5, q7, q7, q0, q0, q0, q1, q1, q1, q7, q5, q5, q7, q7, q0, q0, q0] 21 102)], q5, []⟩,
  ⟨[q180], [(.rowU [q1, q1, q6, q5, q5, q147, q7, q0, q0, q0, q1, q1, q1, q7, q5, q5, q7, q7, q0, q0, q0] 21 102)], q5, []⟩,
  ⟨[q62], [(.rowU [q1, q1, q25, q5, q5, q147, q7, q0, q0, q0, q40, q1, q1, q25, q5, q5, (.v (.string ⟨#[48, 52]⟩)), q7, q0, q0, q0] 21 102)], q5, []⟩,
  ⟨[q190], [], q5, []⟩,
  ⟨[q204], [], q5, []⟩,
  ⟨[q219], [(.rowU [q1, q1, q6, q5, q5, q194, q7, q0, q0, q0, q1, q1, q1, q7, q5, q5, q7, q7, q0, q0, q0, q1, q1, q6, q5, q5, q147, q7, q0, q0, q0, q1, q1, q1, q7, q5, q5, q7, q7, q0, q0, q0] 21 102)], q5, []⟩,
  ⟨[q231], [], q5, []⟩]
theorem esEnS3b1_made : madeE tbu (callM tbu msEnS3 100) hp 37 esEnS3b1 = true := by kernel_rfl
theorem esEnS3b1_ok {w0 : World} (hl : laidMetH Tryz.prog Rows.suresKnownRow.laid w0) : EsOk tbu w0 hp 37 esEnS3b1 := madeE_ok (tbu_ok w0) (msEnS3_ok hl) (start_ok hl) esEnS3b1_made
/-- circa/exprs.Check: 3404 operations. -/
noncomputable def esEnS3b2 : List Entry := [⟨[q219], [(.rowU [q1, q1, q6, q5, q5, q7, q7, q0, q0, q0, q1, q1, q1, q7, q5, q5, q7, q7, q0, q0, q0, q1, q1, q6, q5, q5, q147, q7, q0, q0, q0, q1, q1, q1, q7, q5, q5, q7, q7, q0, q0, q0] 21 102)], q5, []⟩,
  ⟨[q233], [], q5, []⟩,
  ⟨[q236], [(.rowU [q1, q1, q25, q5, q5, q7, q7, q0, q0, q0, q1, q1, q1, q7, q5, q5, q7, q7, q0, q0, q0, q1, q1, q234, q5, q5, q7, q7, q0, q0, q0, q1, q1, q1, q7, q5, q5, q7, q7, q0, q0, q0] 21 102)], q5, []⟩,
  ⟨[q239], [], q5, []⟩,
  ⟨[q243], [], q5, []⟩,
  ⟨[q245], [], q5, []⟩,
  ⟨[q219], [(.rowU [q1, q1, q6, q5, q5, q7, q7, q0, q0, q0, q1, q1, q1, q7, q5, q5, q7, q7, q0, q0, q0, q1, q1, q6, q5, q5, q7, q7, q0, q0, q0, q1, q1, q1, q7, q5, q5, q7, q7, q0, q0, q0] 21 102)], q5, []⟩]
theorem esEnS3b2_made : madeE tbu (callM tbu msEnS3 100) hp 37 esEnS3b2 = true := by kernel_rfl
theorem esEnS3b2_ok {w0 : World} (hl : laidMetH Tryz.prog Rows.suresKnownRow.laid w0) : EsOk tbu w0 hp 37 esEnS3b2 := madeE_ok (tbu_ok w0) (msEnS3_ok hl) (start_ok hl) esEnS3b2_made
/-- circa/units.Precision: 1166 operations. -/
noncomputable def esEnS3b3 : List Entry := [⟨[q34], [], (.tup [q12, q5]), []⟩,
  ⟨[q48], [], (.tup [q12, q5]), []⟩,
  ⟨[q82], [], (.tup [q12, q5]), []⟩,
  ⟨[q89], [], (.tup [q12, q5]), []⟩,
  ⟨[q93], [], q98, []⟩,
  ⟨[q123], [], q98, []⟩,
  ⟨[q128], [], q98, []⟩,
  ⟨[q165], [], (.tup [q0, q5]), []⟩,
  ⟨[q8], [], (.tup [q12, q5]), []⟩,
  ⟨[q179], [], q98, []⟩,
  ⟨[q181], [], q98, []⟩,
  ⟨[q237], [], q98, []⟩,
  ⟨[q241], [], q98, []⟩]
theorem esEnS3b3_made : madeE tbu (callM tbu msEnS3 100) hp 42 esEnS3b3 = true := by kernel_rfl
theorem esEnS3b3_ok {w0 : World} (hl : laidMetH Tryz.prog Rows.suresKnownRow.laid w0) : EsOk tbu w0 hp 42 esEnS3b3 := madeE_ok (tbu_ok w0) (msEnS3_ok hl) (start_ok hl) esEnS3b3_made
/-- circa/units.Filled: 1976 operations. -/
noncomputable def esEnS3b4 : List Entry := [⟨[q34, (.agg [q41, q5, q5])], [], (.tup [q44, q5]), []⟩,
  ⟨[q34, q30], [], (.tup [q31, q5]), []⟩,
  ⟨[q82, q85], [], (.tup [q71, q5]), []⟩,
  ⟨[q82, q86], [], (.tup [q73, q5]), []⟩,
  ⟨[q82, q87], [], (.tup [q74, q5]), []⟩,
  ⟨[q82, q57], [], q59, []⟩,
  ⟨[q82, q78], [], q80, []⟩,
  ⟨[q89, q85], [], (.tup [q71, q5]), []⟩,
  ⟨[q89, q86], [], (.tup [q73, q5]), []⟩,
  ⟨[q89, q87], [], (.tup [q74, q5]), []⟩,
  ⟨[q89, q57], [], q59, []⟩,
  ⟨[q89, q78], [], q80, []⟩,
  ⟨[q34, (.agg [q176, q5, q5])], [], (.tup [q232, q5]), []⟩]
theorem esEnS3b4_made : madeE tbu (callM tbu msEnS3 100) hp 47 esEnS3b4 = true := by kernel_rfl
theorem esEnS3b4_ok {w0 : World} (hl : laidMetH Tryz.prog Rows.suresKnownRow.laid w0) : EsOk tbu w0 hp 47 esEnS3b4 := madeE_ok (tbu_ok w0) (msEnS3_ok hl) (start_ok hl) esEnS3b4_made
/-- circa/units.Next: 2064 operations. -/
noncomputable def esEnS3b5 : List Entry := [⟨[q56, q12], [], (.tup [q66, q5]), []⟩,
  ⟨[q66, q12], [], (.tup [q68, q5]), []⟩,
  ⟨[q68, q12], [], (.tup [q71, q5]), []⟩,
  ⟨[q71, q12], [], (.tup [q73, q5]), []⟩,
  ⟨[q73, q12], [], (.tup [q74, q5]), []⟩,
  ⟨[q74, q12], [], q59, []⟩,
  ⟨[q58, q12], [], q80, []⟩,
  ⟨[q79, q12], [], (.tup [(.agg [q19, (.v (.int .i64 (695787))), q19, (.v (.int .i64 (696151)))]), q5]), []⟩]
theorem esEnS3b5_made : madeE tbu (callM tbu msEnS3 100) hp 50 esEnS3b5 = true := by kernel_rfl
theorem esEnS3b5_ok {w0 : World} (hl : laidMetH Tryz.prog Rows.suresKnownRow.laid w0) : EsOk tbu w0 hp 50 esEnS3b5 := madeE_ok (tbu_ok w0) (msEnS3_ok hl) (start_ok hl) esEnS3b5_made
/-- circa/units.Of: 1424 operations. -/
noncomputable def esEnS3b6 : List Entry := [⟨[q8], [], (.tup [(.agg [q19, q20, q19, q21]), q5]), []⟩,
  ⟨[q26], [], (.tup [q31, q5]), []⟩,
  ⟨[q48], [], (.tup [q56, q5]), []⟩,
  ⟨[q50], [], q59, []⟩,
  ⟨[q76], [], q80, []⟩,
  ⟨[q186], [], q191, []⟩,
  ⟨[q187], [], q192, []⟩,
  ⟨[q235], [], (.tup [q229, q5]), []⟩]
theorem esEnS3b6_made : madeE tbu (callM tbu msEnS3 100) hp 74 esEnS3b6 = true := by kernel_rfl
theorem esEnS3b6_ok {w0 : World} (hl : laidMetH Tryz.prog Rows.suresKnownRow.laid w0) : EsOk tbu w0 hp 74 esEnS3b6 := madeE_ok (tbu_ok w0) (msEnS3_ok hl) (start_ok hl) esEnS3b6_made
/-- circa/units.unit: 20196 operations. -/
noncomputable def esEnS3b7 : List Entry := [⟨[q93, q109], [], q112, []⟩,
  ⟨[q93, q114], [], q118, []⟩,
  ⟨[q123, q109], [], q112, []⟩,
  ⟨[q123, q114], [], q118, []⟩,
  ⟨[q128, q133], [], q138, []⟩,
  ⟨[q128, q141], [], q143, []⟩,
  ⟨[q149, (.agg [q5, q63, q136])], [], (.tup [(.agg [q19, (.v (.int .i64 (59))), q19, (.v (.int .i64 (59)))]), q5]), []⟩,
  ⟨[q158, (.agg [q15, q151, q5])], [], q162, []⟩,
  ⟨[q165, (.agg [q41, q152, q5])], [], (.tup [(.agg [q19, (.v (.int .i64 (730820))), q19, (.v (.int .i64 (730909)))]), q5]), []⟩,
  ⟨[q165, (.agg [q28, q152, q5])], [], (.tup [(.agg [q19, (.v (.int .i64 (731185))), q19, (.v (.int .i64 (731274)))]), q5]), []⟩,
  ⟨[q165, (.agg [q29, q152, q5])], [], (.tup [(.agg [q19, (.v (.int .i64 (731550))), q19, (.v (.int .i64 (731639)))]), q5]), []⟩,
  ⟨[q165, (.agg [q171, q152, q5])], [], (.tup [(.agg [q19, (.v (.int .i64 (731915))), q19, (.v (.int .i64 (732005)))]), q5]), []⟩,
  ⟨[q165, (.agg [q15, q152, q5])], [], (.tup [(.agg [q19, (.v (.int .i64 (732281))), q19, (.v (.int .i64 (732370)))]), q5]), []⟩,
  ⟨[q165, (.agg [q17, q152, q5])], [], (.tup [(.agg [q19, (.v (.int .i64 (732646))), q19, (.v (.int .i64 (732735)))]), q5]), []⟩,
  ⟨[q165, (.agg [q173, q152, q5])], [], (.tup [(.agg [q19, (.v (.int .i64 (733011))), q19, (.v (.int .i64 (733100)))]), q5]), []⟩,
  ⟨[q165, (.agg [q174, q152, q5])], [], (.tup [(.agg [q19, (.v (.int .i64 (733376))), q19, (.v (.int .i64 (733466)))]), q5]), []⟩,
  ⟨[q165, (.agg [q175, q152, q5])], [], (.tup [(.agg [q19, (.v (.int .i64 (733742))), q19, (.v (.int .i64 (733831)))]), q5]), []⟩,
  ⟨[q165, (.agg [q176, q152, q5])], [], (.tup [(.agg [q19, (.v (.int .i64 (734107))), q19, (.v (.int .i64 (734196)))]), q5]), []⟩,
  ⟨[q179, q133], [], q138, []⟩,
  ⟨[q181, q114], [], q118, []⟩,
  ⟨[q182, (.agg [q28, q100, q5])], [], q183, []⟩,
  ⟨[q195, (.agg [q15, q4, q4])], [], (.tup [(.agg [q19, q20, q19, q20]), q5]), []⟩,
  ⟨[q207, q209], [], (.tup [q215, q5]), []⟩,
  ⟨[q218, q221], [], q222, []⟩,
  ⟨[q224, q209], [], (.tup [q215, q5]), []⟩,
  ⟨[q237, q221], [], q222, []⟩,
  ⟨[q237, q133], [], q138, []⟩,
  ⟨[q237, q140], [], (.tup [(.agg [q19, (.v (.int .i64 (732006))), q19, (.v (.int .i64 (732036)))]), q5]), []⟩,
  ⟨[q237, (.agg [q15, q100, q5])], [], (.tup [(.agg [q19, (.v (.int .i64 (732037))), q19, (.v (.int .i64 (732066)))]), q5]), []⟩,
  ⟨[q237, (.agg [q15, q101, q5])], [], (.tup [(.agg [q19, (.v (.int .i64 (732067))), q19, (.v (.int .i64 (732097)))]), q5]), []⟩,
  ⟨[q237, (.agg [q15, q102, q5])], [], (.tup [(.agg [q19, (.v (.int .i64 (732098))), q19, (.v (.int .i64 (732127)))]), q5]), []⟩,
  ⟨[q237, (.agg [q15, q103, q5])], [], (.tup [(.agg [q19, (.v (.int .i64 (732128))), q19, (.v (.int .i64 (732158)))]), q5]), []⟩,
  ⟨[q237, (.agg [q15, q104, q5])], [], (.tup [(.agg [q19, (.v (.int .i64 (732159))), q19, (.v (.int .i64 (732189)))]), q5]), []⟩,
  ⟨[q237, (.agg [q15, q105, q5])], [], (.tup [(.agg [q19, (.v (.int .i64 (732190))), q19, (.v (.int .i64 (732219)))]), q5]), []⟩,
  ⟨[q237, (.agg [q15, q106, q5])], [], (.tup [(.agg [q19, (.v (.int .i64 (732220))), q19, (.v (.int .i64 (732250)))]), q5]), []⟩,
  ⟨[q237, (.agg [q15, q107, q5])], [], (.tup [(.agg [q19, (.v (.int .i64 (732251))), q19, (.v (.int .i64 (732280)))]), q5]), []⟩,
  ⟨[q237, q141], [], q143, []⟩,
  ⟨[q241, (.agg [q41, q63, q5])], [], (.tup [(.agg [q19, (.v (.int .i64 (730516))), q19, (.v (.int .i64 (730544)))]), q5]), []⟩,
  ⟨[q241, q114], [], q118, []⟩,
  ⟨[q241, (.agg [q29, q63, q5])], [], (.tup [(.agg [q19, (.v (.int .i64 (731247))), q19, (.v (.int .i64 (731274)))]), q5]), []⟩,
  ⟨[q241, (.agg [q171, q63, q5])], [], (.tup [(.agg [q19, (.v (.int .i64 (731612))), q19, (.v (.int .i64 (731639)))]), q5]), []⟩,
  ⟨[q241, q133], [], q138, []⟩,
  ⟨[q241, (.agg [q17, q63, q5])], [], (.tup [(.agg [q19, (.v (.int .i64 (732343))), q19, (.v (.int .i64 (732370)))]), q5]), []⟩,
  ⟨[q241, (.agg [q173, q63, q5])], [], (.tup [(.agg [q19, (.v (.int .i64 (732708))), q19, (.v (.int .i64 (732735)))]), q5]), []⟩,
  ⟨[q241, (.agg [q174, q63, q5])], [], (.tup [(.agg [q19, (.v (.int .i64 (733073))), q19, (.v (.int .i64 (733100)))]), q5]), []⟩,
  ⟨[q241, (.agg [q175, q63, q5])], [], (.tup [(.agg [q19, (.v (.int .i64 (733438))), q19, (.v (.int .i64 (733466)))]), q5]), []⟩,
  ⟨[q241, (.agg [q176, q63, q5])], [], (.tup [(.agg [q19, (.v (.int .i64 (733804))), q19, (.v (.int .i64 (733831)))]), q5]), []⟩,
  ⟨[q246, q209], [], (.tup [q215, q5]), []⟩,
  ⟨[q246, (.agg [q15, q94, q111])], [], (.tup [q228, q5]), []⟩]
theorem esEnS3b7_made : madeE tbu (callM tbu msEnS3 100) hp 89 esEnS3b7 = true := by kernel_rfl
theorem esEnS3b7_ok {w0 : World} (hl : laidMetH Tryz.prog Rows.suresKnownRow.laid w0) : EsOk tbu w0 hp 89 esEnS3b7 := madeE_ok (tbu_ok w0) (msEnS3_ok hl) (start_ok hl) esEnS3b7_made
/-- (circa/fillings.form).seek: 7784 operations. -/
noncomputable def esEnS3b8 : List Entry := [⟨[q108, q43, q40], [(.rowU [q4, q63, q99, q100, q101, q102, q103, q104, q105, q106, q107, q94] 1 3), (.row [q5] 3)], (.tup [q109, q40]), []⟩,
  ⟨[q108, q109, q40], [(.rowU [q4, q63, q99, q100, q101, q102, q103, q104, q105, q106, q107, q94] 1 3), (.row [q5] 3)], (.tup [q109, q40]), []⟩,
  ⟨[q108, q114, q40], [(.rowU [q4, q63, q99, q100, q101, q102, q103, q104, q105, q106, q107, q94] 1 3), (.row [q5] 3)], (.tup [q114, q40]), []⟩,
  ⟨[q108, q120, q40], [(.rowU [q4, q63, q99, q100, q101, q102, q103, q104, q105, q106, q107, q94] 1 3), (.row [q5] 3)], (.tup [q120, q40]), []⟩,
  ⟨[q126, q43, q40], [(.rowU [q4, q63, q99, q100, q101, q102, q103, q104, q105] 1 3), (.row [q5] 3)], (.tup [q109, q40]), []⟩,
  ⟨[q126, q109, q40], [(.rowU [q4, q63, q99, q100, q101, q102, q103, q104, q105] 1 3), (.row [q5] 3)], (.tup [q109, q40]), []⟩,
  ⟨[q126, q114, q40], [(.rowU [q4, q63, q99, q100, q101, q102, q103, q104, q105] 1 3), (.row [q5] 3)], (.tup [q114, q40]), []⟩,
  ⟨[q126, q120, q40], [(.rowU [q4, q63, q99, q100, q101, q102, q103, q104, q105] 1 3), (.row [q5] 3)], (.tup [q120, q40]), []⟩,
  ⟨[q131, q43, q40], [(.rowU [q63, q94] 1 3), (.row [q5] 3)], q134, []⟩,
  ⟨[q131, q133, q40], [(.rowU [q63, q94] 1 3), (.row [q5] 3)], q134, []⟩,
  ⟨[q131, q140, q40], [(.rowU [q63, q94] 1 3), (.row [q5] 3)], (.tup [q141, q40]), []⟩,
  ⟨[q131, q141, q40], [(.rowU [q63, q94] 1 3), (.row [q5] 3)], (.tup [q141, q40]), []⟩,
  ⟨[q131, (.agg [q15, q144, q5]), q40], [(.rowU [q63, q94] 1 3), (.row [q5] 3)], q145, []⟩,
  ⟨[q240, q43, q40], [(.rowU [q4, q63, q99, q100, q101, q102, q103, q104, q105, q106, q107, q94] 1 3), (.row [q5] 3)], (.tup [q221, q40]), []⟩,
  ⟨[q240, q221, q40], [(.rowU [q4, q63, q99, q100, q101, q102, q103, q104, q105, q106, q107, q94] 1 3), (.row [q5] 3)], (.tup [q221, q40]), []⟩,
  ⟨[q240, q133, q40], [(.rowU [q4, q63, q99, q100, q101, q102, q103, q104, q105, q106, q107, q94] 1 3), (.row [q5] 3)], q134, []⟩,
  ⟨[q240, q140, q40], [(.rowU [q4, q63, q99, q100, q101, q102, q103, q104, q105, q106, q107, q94] 1 3), (.row [q5] 3)], (.tup [q140, q40]), []⟩,
  ⟨[q240, (.agg [q15, q100, q5]), q40], [(.rowU [q4, q63, q99, q100, q101, q102, q103, q104, q105, q106, q107, q94] 1 3), (.row [q5] 3)], (.tup [(.agg [q15, q100, q5]), q40]), []⟩,
  ⟨[q240, (.agg [q15, q101, q5]), q40], [(.rowU [q4, q63, q99, q100, q101, q102, q103, q104, q105, q106, q107, q94] 1 3), (.row [q5] 3)], (.tup [(.agg [q15, q101, q5]), q40]), []⟩,
  ⟨[q240, (.agg [q15, q102, q5]), q40], [(.rowU [q4, q63, q99, q100, q101, q102, q103, q104, q105, q106, q107, q94] 1 3), (.row [q5] 3)], (.tup [(.agg [q15, q102, q5]), q40]), []⟩,
  ⟨[q240, (.agg [q15, q103, q5]), q40], [(.rowU [q4, q63, q99, q100, q101, q102, q103, q104, q105, q106, q107, q94] 1 3), (.row [q5] 3)], (.tup [(.agg [q15, q103, q5]), q40]), []⟩,
  ⟨[q240, (.agg [q15, q104, q5]), q40], [(.rowU [q4, q63, q99, q100, q101, q102, q103, q104, q105, q106, q107, q94] 1 3), (.row [q5] 3)], (.tup [(.agg [q15, q104, q5]), q40]), []⟩,
  ⟨[q240, (.agg [q15, q105, q5]), q40], [(.rowU [q4, q63, q99, q100, q101, q102, q103, q104, q105, q106, q107, q94] 1 3), (.row [q5] 3)], (.tup [(.agg [q15, q105, q5]), q40]), []⟩,
  ⟨[q240, (.agg [q15, q106, q5]), q40], [(.rowU [q4, q63, q99, q100, q101, q102, q103, q104, q105, q106, q107, q94] 1 3), (.row [q5] 3)], (.tup [(.agg [q15, q106, q5]), q40]), []⟩,
  ⟨[q240, (.agg [q15, q107, q5]), q40], [(.rowU [q4, q63, q99, q100, q101, q102, q103, q104, q105, q106, q107, q94] 1 3), (.row [q5] 3)], (.tup [(.agg [q15, q107, q5]), q40]), []⟩,
  ⟨[q240, q141, q40], [(.rowU [q4, q63, q99, q100, q101, q102, q103, q104, q105, q106, q107, q94] 1 3), (.row [q5] 3)], (.tup [q141, q40]), []⟩,
  ⟨[q240, (.agg [q15, q144, q5]), q40], [(.rowU [q4, q63, q99, q100, q101, q102, q103, q104, q105, q106, q107, q94] 1 3), (.row [q5] 3)], q145, []⟩]
theorem esEnS3b8_made : madeE tbu (callM tbu msEnS3 100) hp 92 esEnS3b8 = true := by kernel_rfl
theorem esEnS3b8_ok {w0 : World} (hl : laidMetH Tryz.prog Rows.suresKnownRow.laid w0) : EsOk tbu w0 hp 92 esEnS3b8 := madeE_ok (tbu_ok w0) (msEnS3_ok hl) (start_ok hl) esEnS3b8_made
/-- circa/months.Len: 845 operations. -/
noncomputable def esEnS3b9 : List Entry := [⟨[q5, q63], [], (.tup [q136, q5]), []⟩,
  ⟨[q4, q63], [], (.tup [q115, q5]), []⟩,
  ⟨[q63, q63], [], (.tup [q115, q5]), []⟩,
  ⟨[q99, q63], [], (.tup [q115, q5]), []⟩,
  ⟨[q100, q63], [], (.tup [q136, q5]), []⟩,
  ⟨[q15, q4], [], q197, []⟩,
  ⟨[q15, q107], [], (.tup [q142, q5]), []⟩,
  ⟨[q15, q63], [], (.tup [q136, q5]), []⟩,
  ⟨[q15, q94], [], q197, []⟩,
  ⟨[q28, q4], [], q197, []⟩,
  ⟨[q28, q94], [], q197, []⟩,
  ⟨[q171, q4], [], q197, []⟩,
  ⟨[q171, q94], [], q197, []⟩]
theorem esEnS3b9_made : madeE tbu (callM tbu msEnS3 100) hp 101 esEnS3b9 = true := by kernel_rfl
theorem esEnS3b9_ok {w0 : World} (hl : laidMetH Tryz.prog Rows.suresKnownRow.laid w0) : EsOk tbu w0 hp 101 esEnS3b9 := madeE_ok (tbu_ok w0) (msEnS3_ok hl) (start_ok hl) esEnS3b9_made
/-- circa/dateforms.Check: 733 operations. -/
noncomputable def esEnS3b10 : List Entry := [⟨[q158], [], q5, []⟩]
theorem esEnS3b10_made : madeE tbu (callM tbu msEnS3 100) hp 132 esEnS3b10 = true := by kernel_rfl
theorem esEnS3b10_ok {w0 : World} (hl : laidMetH Tryz.prog Rows.suresKnownRow.laid w0) : EsOk tbu w0 hp 132 esEnS3b10 := madeE_ok (tbu_ok w0) (msEnS3_ok hl) (start_ok hl) esEnS3b10_made
/-- circa/months.Of: 254 operations. -/
noncomputable def esEnS3b11 : List Entry := [⟨[q116], [], (.tup [q28, q63, q5]), []⟩,
  ⟨[(.v (.int .i64 (730910)))], [], (.tup [q28, q99, q5]), []⟩]
theorem esEnS3b11_made : madeE tbu (callM tbu msEnS3 100) hp 151 esEnS3b11 = true := by kernel_rfl
theorem esEnS3b11_ok {w0 : World} (hl : laidMetH Tryz.prog Rows.suresKnownRow.laid w0) : EsOk tbu w0 hp 151 esEnS3b11 := madeE_ok (tbu_ok w0) (msEnS3_ok hl) (start_ok hl) esEnS3b11_made
end Ev
end Go.Proofs.YtlglepkdipapiaaGreatDoor

