/- Calls that were reckoned, level 1 (printed by genents.py). -/
import Derived.Test.YtlglepkdipapiaaGreatDoorKEnST1
/-! Calls that were reckoned, level 1 (printed by genents.py). -/
set_option linter.unusedVariables false
set_option maxRecDepth 1000000
namespace Go.Proofs.YtlglepkdipapiaaGreatDoor
open Go.RowKit
namespace Ev
/-- circa/families.date: 951 operations. -/
noncomputable def esEnS1a0 : List Entry := [⟨[q202], [], (.agg [q61, q13, q1, q1, q7, q5, q5, q7, q7, q0, q0, q0, q12, q19, q70, q19, (.v (.int .i64 (730484)))]), []⟩]
theorem esEnS1a0_made : madeE tbu (callM tbu msEnS1 100) hp 38 esEnS1a0 = true := by kernel_rfl
theorem esEnS1a0_ok {w0 : World} (hl : laidMetH Tryz.prog Rows.suresKnownRow.laid w0) : EsOk tbu w0 hp 38 esEnS1a0 := madeE_ok (tbu_ok w0) (msEnS1_ok hl) (start_ok hl) esEnS1a0_made
/-- circa/parsers.of: 12970 operations. -/
noncomputable def esEnS1a1 : List Entry := [⟨[q6, q8], [], q5, []⟩,
  ⟨[q25, q26], [], q5, []⟩,
  ⟨[q33, q34], [], q4, []⟩,
  ⟨[q47, q48], [], q5, []⟩,
  ⟨[q49, q50], [], q5, []⟩,
  ⟨[q81, q82], [], q4, []⟩,
  ⟨[q88, q89], [], q4, []⟩,
  ⟨[q95, q93], [], q4, []⟩,
  ⟨[q124, q123], [], q63, []⟩,
  ⟨[q129, q128], [], q63, []⟩,
  ⟨[q156, q149], [], q63, []⟩,
  ⟨[q159, q158], [], q4, []⟩,
  ⟨[q166, q165], [], q63, []⟩,
  ⟨[(.v (.string ⟨#[89, 45, 49, 69, 49, 54]⟩)), q186], [], q63, []⟩,
  ⟨[(.v (.string ⟨#[89, 49, 69, 49, 54]⟩)), q187], [], q63, []⟩,
  ⟨[q198, q195], [], q5, []⟩,
  ⟨[q203, q202], [], q63, []⟩,
  ⟨[q211, q207], [], q63, []⟩,
  ⟨[q226, q224], [], q5, []⟩,
  ⟨[q230, q179], [], q5, []⟩,
  ⟨[q238, q237], [], q4, []⟩,
  ⟨[q242, q241], [], q63, []⟩,
  ⟨[q248, q246], [], q63, []⟩]
theorem esEnS1a1_made : madeE tbu (callM tbu msEnS1 100) hp 69 esEnS1a1 = true := by kernel_rfl
theorem esEnS1a1_ok {w0 : World} (hl : laidMetH Tryz.prog Rows.suresKnownRow.laid w0) : EsOk tbu w0 hp 69 esEnS1a1 := madeE_ok (tbu_ok w0) (msEnS1_ok hl) (start_ok hl) esEnS1a1_made
/-- circa/units.unit: 3276 operations. -/
noncomputable def esEnS1a2 : List Entry := [⟨[q8, (.agg [q15, q5, q5])], [], (.tup [(.agg [q19, q20, q19, q21]), q5]), []⟩,
  ⟨[q26, q30], [], (.tup [q31, q5]), []⟩,
  ⟨[q34, (.agg [q41, q5, q5])], [], (.tup [q44, q5]), []⟩,
  ⟨[q34, q30], [], (.tup [q31, q5]), []⟩,
  ⟨[q48, (.agg [(.v (.int .i64 (1897))), q5, q5])], [], (.tup [q56, q5]), []⟩,
  ⟨[q50, q57], [], q59, []⟩,
  ⟨[q76, q78], [], q80, []⟩,
  ⟨[q82, q85], [], (.tup [q71, q5]), []⟩,
  ⟨[q82, q86], [], (.tup [q73, q5]), []⟩,
  ⟨[q82, q87], [], (.tup [q74, q5]), []⟩,
  ⟨[q82, q57], [], q59, []⟩,
  ⟨[q82, q78], [], q80, []⟩,
  ⟨[q89, q85], [], (.tup [q71, q5]), []⟩,
  ⟨[q89, q86], [], (.tup [q73, q5]), []⟩,
  ⟨[q89, q87], [], (.tup [q74, q5]), []⟩,
  ⟨[q89, q57], [], q59, []⟩,
  ⟨[q89, q78], [], q80, []⟩,
  ⟨[q186, (.agg [q188, q5, q5])], [], q191, []⟩,
  ⟨[q187, (.agg [q189, q5, q5])], [], q192, []⟩,
  ⟨[q34, (.agg [q176, q5, q5])], [], (.tup [q232, q5]), []⟩,
  ⟨[q235, (.agg [q171, q5, q5])], [], (.tup [q229, q5]), []⟩]
theorem esEnS1a2_made : madeE tbu (callM tbu msEnS1 100) hp 89 esEnS1a2 = true := by kernel_rfl
theorem esEnS1a2_ok {w0 : World} (hl : laidMetH Tryz.prog Rows.suresKnownRow.laid w0) : EsOk tbu w0 hp 89 esEnS1a2 := madeE_ok (tbu_ok w0) (msEnS1_ok hl) (start_ok hl) esEnS1a2_made
/-- circa/fillings.of: 221 operations. -/
noncomputable def esEnS1a3 : List Entry := [⟨[q34], [], q38, [(.row [q5] 3), (.row [q5] 3)]⟩,
  ⟨[q82], [], q84, [(.row [q5] 3), (.row [q5] 3)]⟩,
  ⟨[q89], [], q91, [(.row [q5] 3), (.row [q5] 3)]⟩,
  ⟨[q165], [], q169, [(.row [q152] 3), (.row [q5] 3)]⟩]
theorem esEnS1a3_made : madeE tbu (callM tbu msEnS1 100) hp 91 esEnS1a3 = true := by kernel_rfl
theorem esEnS1a3_ok {w0 : World} (hl : laidMetH Tryz.prog Rows.suresKnownRow.laid w0) : EsOk tbu w0 hp 91 esEnS1a3 := madeE_ok (tbu_ok w0) (msEnS1_ok hl) (start_ok hl) esEnS1a3_made
/-- (circa/fillings.form).seek: 10263 operations. -/
noncomputable def esEnS1a4 : List Entry := [⟨[q38, q43, q40], [(.row [q5] 3), (.row [q5] 3)], (.tup [(.agg [q41, q5, q5]), q40]), []⟩,
  ⟨[q38, (.agg [q41, q5, q5]), q40], [(.row [q5] 3), (.row [q5] 3)], (.tup [(.agg [q41, q5, q5]), q40]), []⟩,
  ⟨[q38, q30, q40], [(.row [q5] 3), (.row [q5] 3)], (.tup [q30, q40]), []⟩,
  ⟨[q38, (.agg [q29, q5, q5]), q40], [(.row [q5] 3), (.row [q5] 3)], (.tup [(.agg [q29, q5, q5]), q40]), []⟩,
  ⟨[q84, q43, q40], [(.row [q5] 3), (.row [q5] 3)], (.tup [q85, q40]), []⟩,
  ⟨[q84, q85, q40], [(.row [q5] 3), (.row [q5] 3)], (.tup [q85, q40]), []⟩,
  ⟨[q84, q86, q40], [(.row [q5] 3), (.row [q5] 3)], (.tup [q86, q40]), []⟩,
  ⟨[q84, q87, q40], [(.row [q5] 3), (.row [q5] 3)], (.tup [q87, q40]), []⟩,
  ⟨[q84, q57, q40], [(.row [q5] 3), (.row [q5] 3)], (.tup [q57, q40]), []⟩,
  ⟨[q84, q78, q40], [(.row [q5] 3), (.row [q5] 3)], (.tup [q78, q40]), []⟩,
  ⟨[q84, (.agg [q77, q5, q5]), q40], [(.row [q5] 3), (.row [q5] 3)], (.tup [(.agg [q77, q5, q5]), q40]), []⟩,
  ⟨[q91, q43, q40], [(.row [q5] 3), (.row [q5] 3)], (.tup [q85, q40]), []⟩,
  ⟨[q91, q85, q40], [(.row [q5] 3), (.row [q5] 3)], (.tup [q85, q40]), []⟩,
  ⟨[q91, q86, q40], [(.row [q5] 3), (.row [q5] 3)], (.tup [q86, q40]), []⟩,
  ⟨[q91, q87, q40], [(.row [q5] 3), (.row [q5] 3)], (.tup [q87, q40]), []⟩,
  ⟨[q91, q57, q40], [(.row [q5] 3), (.row [q5] 3)], (.tup [q57, q40]), []⟩,
  ⟨[q91, q78, q40], [(.row [q5] 3), (.row [q5] 3)], (.tup [q78, q40]), []⟩,
  ⟨[q91, (.agg [q77, q5, q5]), q40], [(.row [q5] 3), (.row [q5] 3)], (.tup [(.agg [q77, q5, q5]), q40]), []⟩,
  ⟨[q169, q43, q40], [(.row [q152] 3), (.row [q5] 3)], (.tup [(.agg [q41, q152, q5]), q40]), []⟩,
  ⟨[q169, (.agg [q41, q152, q5]), q40], [(.row [q152] 3), (.row [q5] 3)], (.tup [(.agg [q41, q152, q5]), q40]), []⟩,
  ⟨[q169, (.agg [q41, q153, q5]), q40], [(.row [q152] 3), (.row [q5] 3)], (.tup [(.agg [q28, q152, q5]), q40]), []⟩,
  ⟨[q169, (.agg [q28, q152, q5]), q40], [(.row [q152] 3), (.row [q5] 3)], (.tup [(.agg [q28, q152, q5]), q40]), []⟩,
  ⟨[q169, (.agg [q28, q153, q5]), q40], [(.row [q152] 3), (.row [q5] 3)], (.tup [(.agg [q29, q152, q5]), q40]), []⟩,
  ⟨[q169, (.agg [q29, q152, q5]), q40], [(.row [q152] 3), (.row [q5] 3)], (.tup [(.agg [q29, q152, q5]), q40]), []⟩,
  ⟨[q169, (.agg [q29, q153, q5]), q40], [(.row [q152] 3), (.row [q5] 3)], (.tup [(.agg [q171, q152, q5]), q40]), []⟩,
  ⟨[q169, (.agg [q171, q152, q5]), q40], [(.row [q152] 3), (.row [q5] 3)], (.tup [(.agg [q171, q152, q5]), q40]), []⟩,
  ⟨[q169, (.agg [q171, q153, q5]), q40], [(.row [q152] 3), (.row [q5] 3)], (.tup [(.agg [q15, q152, q5]), q40]), []⟩,
  ⟨[q169, (.agg [q15, q152, q5]), q40], [(.row [q152] 3), (.row [q5] 3)], (.tup [(.agg [q15, q152, q5]), q40]), []⟩,
  ⟨[q169, (.agg [q15, q153, q5]), q40], [(.row [q152] 3), (.row [q5] 3)], (.tup [(.agg [q17, q152, q5]), q40]), []⟩,
  ⟨[q169, (.agg [q17, q152, q5]), q40], [(.row [q152] 3), (.row [q5] 3)], (.tup [(.agg [q17, q152, q5]), q40]), []⟩,
  ⟨[q169, (.agg [q17, q153, q5]), q40], [(.row [q152] 3), (.row [q5] 3)], (.tup [(.agg [q173, q152, q5]), q40]), []⟩,
  ⟨[q169, (.agg [q173, q152, q5]), q40], [(.row [q152] 3), (.row [q5] 3)], (.tup [(.agg [q173, q152, q5]), q40]), []⟩,
  ⟨[q169, (.agg [q173, q153, q5]), q40], [(.row [q152] 3), (.row [q5] 3)], (.tup [(.agg [q174, q152, q5]), q40]), []⟩,
  ⟨[q169, (.agg [q174, q152, q5]), q40], [(.row [q152] 3), (.row [q5] 3)], (.tup [(.agg [q174, q152, q5]), q40]), []⟩,
  ⟨[q169, (.agg [q174, q153, q5]), q40], [(.row [q152] 3), (.row [q5] 3)], (.tup [(.agg [q175, q152, q5]), q40]), []⟩,
  ⟨[q169, (.agg [q175, q152, q5]), q40], [(.row [q152] 3), (.row [q5] 3)], (.tup [(.agg [q175, q152, q5]), q40]), []⟩,
  ⟨[q169, (.agg [q175, q153, q5]), q40], [(.row [q152] 3), (.row [q5] 3)], (.tup [(.agg [q176, q152, q5]), q40]), []⟩,
  ⟨[q169, (.agg [q176, q152, q5]), q40], [(.row [q152] 3), (.row [q5] 3)], (.tup [(.agg [q176, q152, q5]), q40]), []⟩,
  ⟨[q169, (.agg [q176, q153, q5]), q40], [(.row [q152] 3), (.row [q5] 3)], q145, []⟩,
  ⟨[q38, (.agg [q216, q5, q5]), q1], [(.row [q5] 3), (.row [q5] 3)], (.tup [(.agg [q176, q5, q5]), q40]), []⟩,
  ⟨[q38, (.agg [q176, q5, q5]), q40], [(.row [q5] 3), (.row [q5] 3)], (.tup [(.agg [q176, q5, q5]), q40]), []⟩,
  ⟨[q244, q43, q40], [(.rowU [q63] 1 3), (.row [q5] 3)], (.tup [(.agg [q41, q63, q5]), q40]), []⟩,
  ⟨[q244, (.agg [q41, q63, q5]), q40], [(.rowU [q63] 1 3), (.row [q5] 3)], (.tup [(.agg [q41, q63, q5]), q40]), []⟩,
  ⟨[q244, (.agg [q41, q99, q5]), q40], [(.rowU [q63] 1 3), (.row [q5] 3)], (.tup [q114, q40]), []⟩,
  ⟨[q244, q114, q40], [(.rowU [q63] 1 3), (.row [q5] 3)], (.tup [q114, q40]), []⟩,
  ⟨[q244, q120, q40], [(.rowU [q63] 1 3), (.row [q5] 3)], (.tup [(.agg [q29, q63, q5]), q40]), []⟩,
  ⟨[q244, (.agg [q29, q63, q5]), q40], [(.rowU [q63] 1 3), (.row [q5] 3)], (.tup [(.agg [q29, q63, q5]), q40]), []⟩,
  ⟨[q244, (.agg [q29, q99, q5]), q40], [(.rowU [q63] 1 3), (.row [q5] 3)], (.tup [(.agg [q171, q63, q5]), q40]), []⟩,
  ⟨[q244, (.agg [q171, q63, q5]), q40], [(.rowU [q63] 1 3), (.row [q5] 3)], (.tup [(.agg [q171, q63, q5]), q40]), []⟩,
  ⟨[q244, (.agg [q171, q99, q5]), q40], [(.rowU [q63] 1 3), (.row [q5] 3)], q134, []⟩,
  ⟨[q244, q133, q40], [(.rowU [q63] 1 3), (.row [q5] 3)], q134, []⟩,
  ⟨[q244, q140, q40], [(.rowU [q63] 1 3), (.row [q5] 3)], (.tup [(.agg [q17, q63, q5]), q40]), []⟩,
  ⟨[q244, (.agg [q17, q63, q5]), q40], [(.rowU [q63] 1 3), (.row [q5] 3)], (.tup [(.agg [q17, q63, q5]), q40]), []⟩,
  ⟨[q244, (.agg [q17, q99, q5]), q40], [(.rowU [q63] 1 3), (.row [q5] 3)], (.tup [(.agg [q173, q63, q5]), q40]), []⟩,
  ⟨[q244, (.agg [q173, q63, q5]), q40], [(.rowU [q63] 1 3), (.row [q5] 3)], (.tup [(.agg [q173, q63, q5]), q40]), []⟩,
  ⟨[q244, (.agg [q173, q99, q5]), q40], [(.rowU [q63] 1 3), (.row [q5] 3)], (.tup [(.agg [q174, q63, q5]), q40]), []⟩,
  ⟨[q244, (.agg [q174, q63, q5]), q40], [(.rowU [q63] 1 3), (.row [q5] 3)], (.tup [(.agg [q174, q63, q5]), q40]), []⟩,
  ⟨[q244, (.agg [q174, q99, q5]), q40], [(.rowU [q63] 1 3), (.row [q5] 3)], (.tup [(.agg [q175, q63, q5]), q40]), []⟩,
  ⟨[q244, (.agg [q175, q63, q5]), q40], [(.rowU [q63] 1 3), (.row [q5] 3)], (.tup [(.agg [q175, q63, q5]), q40]), []⟩,
  ⟨[q244, (.agg [q175, q99, q5]), q40], [(.rowU [q63] 1 3), (.row [q5] 3)], (.tup [(.agg [q176, q63, q5]), q40]), []⟩,
  ⟨[q244, (.agg [q176, q63, q5]), q40], [(.rowU [q63] 1 3), (.row [q5] 3)], (.tup [(.agg [q176, q63, q5]), q40]), []⟩,
  ⟨[q244, (.agg [q176, q99, q5]), q40], [(.rowU [q63] 1 3), (.row [q5] 3)], q145, []⟩]
theorem esEnS1a4_made : madeE tbu (callM tbu msEnS1 100) hp 92 esEnS1a4 = true := by kernel_rfl
theorem esEnS1a4_ok {w0 : World} (hl : laidMetH Tryz.prog Rows.suresKnownRow.laid w0) : EsOk tbu w0 hp 92 esEnS1a4 := madeE_ok (tbu_ok w0) (msEnS1_ok hl) (start_ok hl) esEnS1a4_made
/-- circa/yearforms.Value: 4559 operations. -/
noncomputable def esEnS1a5 : List Entry := [⟨[(.agg [q1, q1, q6, q5, q5])], [], (.tup [q15, q5]), []⟩,
  ⟨[(.agg [q1, q1, q25, q5, q5])], [], (.tup [q28, q5]), []⟩,
  ⟨[(.agg [q1, q1, q47, q5, q5])], [], (.tup [(.v (.int .i64 (1897))), q5]), []⟩,
  ⟨[(.agg [q1, q1, q49, q5, q5])], [], (.tup [q52, q5]), []⟩,
  ⟨[(.agg [q1, q1, q75, q5, q5])], [], (.tup [q53, q5]), []⟩,
  ⟨[(.agg [q40, q40, q185, q150, q5])], [], (.tup [q188, q5]), []⟩,
  ⟨[(.agg [q1, q40, q185, q150, q5])], [], (.tup [q189, q5]), []⟩,
  ⟨[(.agg [q1, q1, q234, q5, q5])], [], (.tup [q171, q5]), []⟩]
theorem esEnS1a5_made : madeE tbu (callM tbu msEnS1 100) hp 128 esEnS1a5 = true := by kernel_rfl
theorem esEnS1a5_ok {w0 : World} (hl : laidMetH Tryz.prog Rows.suresKnownRow.laid w0) : EsOk tbu w0 hp 128 esEnS1a5 := madeE_ok (tbu_ok w0) (msEnS1_ok hl) (start_ok hl) esEnS1a5_made
/-- circa/dateforms.Check: 5560 operations. -/
noncomputable def esEnS1a6 : List Entry := [⟨[q8], [], q5, []⟩,
  ⟨[q26], [], q5, []⟩,
  ⟨[q34], [], q5, []⟩,
  ⟨[q48], [], q5, []⟩,
  ⟨[q50], [], q5, []⟩,
  ⟨[q76], [], q5, []⟩,
  ⟨[q82], [], q5, []⟩,
  ⟨[q89], [], q5, []⟩,
  ⟨[q93], [], q5, []⟩,
  ⟨[q123], [], q5, []⟩,
  ⟨[q128], [], q5, []⟩,
  ⟨[q149], [], q5, []⟩,
  ⟨[q165], [], q5, []⟩,
  ⟨[q179], [], q5, []⟩,
  ⟨[q181], [], q5, []⟩,
  ⟨[q182], [], q5, []⟩,
  ⟨[q186], [], q5, []⟩,
  ⟨[q187], [], q5, []⟩,
  ⟨[q195], [], q5, []⟩,
  ⟨[q202], [], q5, []⟩,
  ⟨[q207], [], q5, []⟩,
  ⟨[q218], [], q5, []⟩,
  ⟨[q224], [], q5, []⟩,
  ⟨[q235], [], q5, []⟩,
  ⟨[q237], [], q5, []⟩,
  ⟨[q241], [], q5, []⟩,
  ⟨[q246], [], q5, []⟩]
theorem esEnS1a6_made : madeE tbu (callM tbu msEnS1 100) hp 132 esEnS1a6 = true := by kernel_rfl
theorem esEnS1a6_ok {w0 : World} (hl : laidMetH Tryz.prog Rows.suresKnownRow.laid w0) : EsOk tbu w0 hp 132 esEnS1a6 := madeE_ok (tbu_ok w0) (msEnS1_ok hl) (start_ok hl) esEnS1a6_made
/-- circa/fillings.fits: 2163 operations. -/
noncomputable def esEnS1a7 : List Entry := [⟨[q92, q94], [], (.slU 16 0 12 0), [(.rowU [q4, q63, q99, q100, q101, q102, q103, q104, q105, q106, q107, q94] 1 3)]⟩,
  ⟨[q122, q94], [], (.slU 16 0 9 0), [(.rowU [q4, q63, q99, q100, q101, q102, q103, q104, q105] 1 3)]⟩,
  ⟨[q127, q94], [], (.slU 16 0 2 0), [(.rowU [q63, q94] 1 3)]⟩,
  ⟨[q147, q94], [], (.slU 16 0 1 0), [(.rowU [q63] 1 3)]⟩,
  ⟨[q148, q111], [], (.slU 16 0 1 0), [(.rowU [q136] 1 3)]⟩,
  ⟨[q194, q94], [], (.slU 16 0 1 0), [(.rowU [q4] 1 3)]⟩,
  ⟨[q194, q111], [], (.slU 16 0 1 0), [(.rowU [q4] 1 3)]⟩,
  ⟨[q205, q94], [], (.slU 16 0 2 0), [(.rowU [q4, q107] 1 3)]⟩,
  ⟨[q206, q111], [], (.slU 16 0 1 0), [(.rowU [q111] 1 3)]⟩]
theorem esEnS1a7_made : madeE tbu (callM tbu msEnS1 100) hp 143 esEnS1a7 = true := by kernel_rfl
theorem esEnS1a7_ok {w0 : World} (hl : laidMetH Tryz.prog Rows.suresKnownRow.laid w0) : EsOk tbu w0 hp 143 esEnS1a7 := madeE_ok (tbu_ok w0) (msEnS1_ok hl) (start_ok hl) esEnS1a7_made
/-- circa/years.Of: 5446 operations. -/
noncomputable def esEnS1a8 : List Entry := [⟨[q55], [], (.tup [(.v (.int .i64 (1897))), q5]), []⟩,
  ⟨[(.v (.int .i64 (693231)))], [], (.tup [(.v (.int .i64 (1898))), q5]), []⟩,
  ⟨[(.v (.int .i64 (693596)))], [], (.tup [(.v (.int .i64 (1899))), q5]), []⟩,
  ⟨[q70], [], (.tup [q67, q5]), []⟩,
  ⟨[(.v (.int .i64 (694326)))], [], (.tup [q69, q5]), []⟩,
  ⟨[(.v (.int .i64 (694691)))], [], (.tup [q72, q5]), []⟩,
  ⟨[(.v (.int .i64 (695056)))], [], (.tup [q52, q5]), []⟩,
  ⟨[q116], [], (.tup [q28, q5]), []⟩,
  ⟨[(.v (.int .i64 (730910)))], [], (.tup [q28, q5]), []⟩,
  ⟨[(.v (.int .i64 (695421)))], [], (.tup [q53, q5]), []⟩]
theorem esEnS1a8_made : madeE tbu (callM tbu msEnS1 100) hp 149 esEnS1a8 = true := by kernel_rfl
theorem esEnS1a8_ok {w0 : World} (hl : laidMetH Tryz.prog Rows.suresKnownRow.laid w0) : EsOk tbu w0 hp 149 esEnS1a8 := madeE_ok (tbu_ok w0) (msEnS1_ok hl) (start_ok hl) esEnS1a8_made
/-- circa/years.Leap: 880 operations. -/
noncomputable def esEnS1a9 : List Entry := [⟨[q28], [], q110, []⟩,
  ⟨[q15], [], q135, []⟩,
  ⟨[q5], [], q135, []⟩,
  ⟨[q4], [], q110, []⟩,
  ⟨[q63], [], q110, []⟩,
  ⟨[q99], [], q110, []⟩,
  ⟨[q100], [], q135, []⟩,
  ⟨[q41], [], q135, []⟩,
  ⟨[q29], [], q110, []⟩,
  ⟨[q171], [], q110, []⟩,
  ⟨[q17], [], q110, []⟩,
  ⟨[q173], [], q110, []⟩,
  ⟨[q174], [], q110, []⟩,
  ⟨[q175], [], q135, []⟩,
  ⟨[q176], [], q110, []⟩,
  ⟨[q177], [], q110, []⟩]
theorem esEnS1a9_made : madeE tbu (callM tbu msEnS1 100) hp 162 esEnS1a9 = true := by kernel_rfl
theorem esEnS1a9_ok {w0 : World} (hl : laidMetH Tryz.prog Rows.suresKnownRow.laid w0) : EsOk tbu w0 hp 162 esEnS1a9 := madeE_ok (tbu_ok w0) (msEnS1_ok hl) (start_ok hl) esEnS1a9_made
/-- circa/marks.Spread: 378 operations. -/
noncomputable def esEnS1a10 : List Entry := [⟨[q3, q3, q4], [], (.tup [q3, q5]), []⟩,
  ⟨[q3, q3, q63], [], (.tup [q3, q5]), []⟩,
  ⟨[q3, q3, q99], [], (.tup [q3, q5]), []⟩]
theorem esEnS1a10_made : madeE tbu (callM tbu msEnS1 100) hp 172 esEnS1a10 = true := by kernel_rfl
theorem esEnS1a10_ok {w0 : World} (hl : laidMetH Tryz.prog Rows.suresKnownRow.laid w0) : EsOk tbu w0 hp 172 esEnS1a10 := madeE_ok (tbu_ok w0) (msEnS1_ok hl) (start_ok hl) esEnS1a10_made
end Ev
end Go.Proofs.YtlglepkdipapiaaGreatDoor

