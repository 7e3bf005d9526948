/- Calls that were reckoned, level 5 (printed by genents.py). -/
import Derived.Test.YtlglepkdipapiaaGreatDoorKEnST5
/-! Calls that were reckoned, level 5 (printed by genents.py). -/
set_option linter.unusedVariables false
set_option maxRecDepth 1000000
namespace Go.Proofs.YtlglepkdipapiaaGreatDoor
open Go.RowKit
namespace Ev
/-- circa/parsers.Parse: 1877 operations. -/
noncomputable def esEnS5a0 : List Entry := [⟨[q159], [], (.tup [q161, q4, q5, q5]), []⟩]
theorem esEnS5a0_made : madeE tbu (callM tbu msEnS5 100) hp 8 esEnS5a0 = true := by kernel_rfl
theorem esEnS5a0_ok {w0 : World} (hl : laidMetH Tryz.prog Rows.suresKnownRow.laid w0) : EsOk tbu w0 hp 8 esEnS5a0 := madeE_ok (tbu_ok w0) (msEnS5_ok hl) (start_ok hl) esEnS5a0_made
/-- circa/sures.Lengths: 23628 operations. -/
noncomputable def esEnS5a1 : List Entry := [⟨[q35], [], q46, []⟩,
  ⟨[q83], [], q46, []⟩,
  ⟨[q90], [], q46, []⟩,
  ⟨[q97], [], q121, []⟩,
  ⟨[q125], [], q121, []⟩,
  ⟨[q130], [], (.tup [q139, q113, q5]), []⟩,
  ⟨[q168], [], (.tup [q170, q172, q5]), []⟩,
  ⟨[q204], [], q46, []⟩,
  ⟨[q239], [], (.tup [q139, q113, q5]), []⟩,
  ⟨[q243], [], (.tup [q119, q139, q5]), []⟩]
theorem esEnS5a1_made : madeE tbu (callM tbu msEnS5 100) hp 9 esEnS5a1 = true := by kernel_rfl
theorem esEnS5a1_ok {w0 : World} (hl : laidMetH Tryz.prog Rows.suresKnownRow.laid w0) : EsOk tbu w0 hp 9 esEnS5a1 := madeE_ok (tbu_ok w0) (msEnS5_ok hl) (start_ok hl) esEnS5a1_made
/-- circa/families.Of: 10076 operations. -/
noncomputable def esEnS5a2 : List Entry := [⟨[q14], [], q23, [(.row [q12, (.sl 17 0 1 1), q1, q1, q7, q5, q5, q7, q7, q0, q0, q0, q0, q19, q5, q19, q5] 72), (.row [q19, q20, q19, q21] 54)]⟩,
  ⟨[q27], [], q23, [(.row [q12, (.sl 17 0 1 1), q1, q1, q7, q5, q5, q7, q7, q0, q0, q0, q0, q19, q5, q19, q5] 72), (.row [q19, (.v (.int .i64 (730851))), q19, (.v (.int .i64 (731215)))] 54)]⟩,
  ⟨[q54], [], q23, [(.row [q12, (.sl 17 0 1 1), q1, q1, q7, q5, q5, q7, q7, q0, q0, q0, q0, q19, q5, q19, q5] 72), (.row [q19, q55, q19, (.v (.int .i64 (695420)))] 54)]⟩,
  ⟨[q62], [(.rowU [q1, q1, q47, q5, q5, q7, q7, q0, q0, q0, q40, q1, q1, q49, q5, q5, q7, q7, q0, q0, q0] 21 102)], q64, [(.row [q61, q13, q1, q1, q7, q5, q5, q7, q7, q0, q0, q0, q12, q19, q55, q19, (.v (.int .i64 (695420)))] 72)]⟩,
  ⟨[q62], [(.rowU [q1, q1, q47, q5, q5, q7, q7, q0, q0, q0, q40, q1, q1, q75, q5, q5, q7, q7, q0, q0, q0] 21 102)], q64, [(.row [q61, q13, q1, q1, q7, q5, q5, q7, q7, q0, q0, q0, q12, q19, q55, q19, (.v (.int .i64 (695786)))] 72)]⟩,
  ⟨[q178], [(.rowU [q1, q1, q6, q5, q5, q7, q7, q0, q0, q0, q1, q1, q1, q7, q5, q5, q7, q7, q0, q0, q0] 21 102)], q64, [(.row [q61, q13, q1, q1, q7, q5, q5, q7, q7, q0, q0, q0, q12, (.v (.int .i8 (-1))), q5, q19, q21] 72)]⟩,
  ⟨[q190], [], q23, [(.row [q12, (.sl 17 0 1 1), q1, q1, q7, q5, q5, q7, q7, q0, q0, q0, q0, q19, q5, q19, q5] 72), (.row [q19, (.v (.int .i64 (-3652425000000000000))), q19, (.v (.int .i64 (3652425000000000365)))] 54)]⟩,
  ⟨[q233], [], q23, [(.row [(.v (.int .u8 (4))), q13, q1, q1, q7, q5, q5, q7, q7, q0, q0, q0, q0, (.v (.int .i8 (-1))), q5, q19, q21] 72)]⟩,
  ⟨[q236], [(.rowU [q1, q1, q25, q5, q5, q7, q7, q0, q0, q0, q1, q1, q1, q7, q5, q5, q7, q7, q0, q0, q0, q1, q1, q234, q5, q5, q7, q7, q0, q0, q0, q1, q1, q1, q7, q5, q5, q7, q7, q0, q0, q0] 21 102)], q64, [(.row [q12, (.sl 18 0 2 2), q1, q1, q7, q5, q5, q7, q7, q0, q0, q0, q0, q19, q5, q19, q5] 72), (.rowU [q19, (.v (.int .i64 (730851))), q19, (.v (.int .i64 (731215))), q19, (.v (.int .i64 (731581))), q19, (.v (.int .i64 (731945)))] 4 54)]⟩,
  ⟨[q245], [], q23, [(.row [q12, (.sl 17 0 1 1), q1, q1, q7, q5, q5, q7, q7, q0, q0, q0, q0, q19, q5, q19, q5] 72), (.row [q19, q20, (.v (.int .i8 (1))), q5] 54)]⟩,
  ⟨[q219], [(.rowU [q1, q1, q6, q5, q5, q7, q7, q0, q0, q0, q1, q1, q1, q7, q5, q5, q7, q7, q0, q0, q0, q1, q1, q6, q5, q5, q7, q7, q0, q0, q0, q1, q1, q1, q7, q5, q5, q7, q7, q0, q0, q0] 21 102)], q223, [(.row [q12, (.sl 18 0 1 1), q1, q1, q7, q5, q5, q7, q7, q0, q0, q0, q0, q19, q5, q19, q5, q12, (.sl 19 0 1 1), q1, q1, q7, q5, q5, q7, q7, q0, q0, q0, q0, q19, q5, q19, q5] 72), (.row [q19, q20, q19, q21] 54), (.row [q19, q20, q19, q21] 54)]⟩]
theorem esEnS5a2_made : madeE tbu (callM tbu msEnS5 100) hp 18 esEnS5a2 = true := by kernel_rfl
theorem esEnS5a2_ok {w0 : World} (hl : laidMetH Tryz.prog Rows.suresKnownRow.laid w0) : EsOk tbu w0 hp 18 esEnS5a2 := madeE_ok (tbu_ok w0) (msEnS5_ok hl) (start_ok hl) esEnS5a2_made
/-- circa/sures.only: 72 operations. -/
noncomputable def esEnS5a3 : List Entry := [⟨[q37], [], (.tup [q13, q1]), []⟩]
theorem esEnS5a3_made : madeE tbu (callM tbu msEnS5 100) hp 23 esEnS5a3 = true := by kernel_rfl
theorem esEnS5a3_ok {w0 : World} (hl : laidMetH Tryz.prog Rows.suresKnownRow.laid w0) : EsOk tbu w0 hp 23 esEnS5a3 := madeE_ok (tbu_ok w0) (msEnS5_ok hl) (start_ok hl) esEnS5a3_made
/-- circa/exprs.Check: 130 operations. -/
noncomputable def esEnS5a4 : List Entry := [⟨[q161], [], q5, []⟩]
theorem esEnS5a4_made : madeE tbu (callM tbu msEnS5 100) hp 37 esEnS5a4 = true := by kernel_rfl
theorem esEnS5a4_ok {w0 : World} (hl : laidMetH Tryz.prog Rows.suresKnownRow.laid w0) : EsOk tbu w0 hp 37 esEnS5a4 := madeE_ok (tbu_ok w0) (msEnS5_ok hl) (start_ok hl) esEnS5a4_made
/-- circa/families.date: 214 operations. -/
noncomputable def esEnS5a5 : List Entry := [⟨[q218], [], q22, [(.row [q19, q20, q19, q214] 54)]⟩,
  ⟨[q179], [], q22, [(.row [q19, (.v (.int .i64 (731977))), q19, (.v (.int .i64 (732005)))] 54)]⟩]
theorem esEnS5a5_made : madeE tbu (callM tbu msEnS5 100) hp 38 esEnS5a5 = true := by kernel_rfl
theorem esEnS5a5_ok {w0 : World} (hl : laidMetH Tryz.prog Rows.suresKnownRow.laid w0) : EsOk tbu w0 hp 38 esEnS5a5 := madeE_ok (tbu_ok w0) (msEnS5_ok hl) (start_ok hl) esEnS5a5_made
/-- circa/families.span: 116 operations. -/
noncomputable def esEnS5a6 : List Entry := [⟨[(.agg [q1, q1, q6, q5, q5, q147, q7, q0, q0, q0, q1, q1, q1, q7, q5, q5, q7, q7, q0, q0, q0]), q1, q40], [], (.agg [q19, (.v (.int .i64 (731977))), (.v (.int .i8 (1))), q5]), []⟩,
  ⟨[(.agg [q1, q1, q25, q5, q5, q147, q7, q0, q0, q0, q40, q1, q1, q25, q5, q5, (.v (.string ⟨#[48, 52]⟩)), q7, q0, q0, q0]), q1, q1], [], (.agg [q19, q116, q19, (.v (.int .i64 (730970)))]), []⟩]
theorem esEnS5a6_made : madeE tbu (callM tbu msEnS5 100) hp 41 esEnS5a6 = true := by kernel_rfl
theorem esEnS5a6_ok {w0 : World} (hl : laidMetH Tryz.prog Rows.suresKnownRow.laid w0) : EsOk tbu w0 hp 41 esEnS5a6 := madeE_ok (tbu_ok w0) (msEnS5_ok hl) (start_ok hl) esEnS5a6_made
/-- circa/units.Next: 994 operations. -/
noncomputable def esEnS5a7 : List Entry := [⟨[q117, q36], [], (.tup [q184, q5]), []⟩,
  ⟨[q184, q36], [], q183, []⟩]
theorem esEnS5a7_made : madeE tbu (callM tbu msEnS5 100) hp 50 esEnS5a7 = true := by kernel_rfl
theorem esEnS5a7_ok {w0 : World} (hl : laidMetH Tryz.prog Rows.suresKnownRow.laid w0) : EsOk tbu w0 hp 50 esEnS5a7 := madeE_ok (tbu_ok w0) (msEnS5_ok hl) (start_ok hl) esEnS5a7_made
/-- circa/units.Of: 256 operations. -/
noncomputable def esEnS5a8 : List Entry := [⟨[q158], [], q162, []⟩]
theorem esEnS5a8_made : madeE tbu (callM tbu msEnS5 100) hp 74 esEnS5a8 = true := by kernel_rfl
theorem esEnS5a8_ok {w0 : World} (hl : laidMetH Tryz.prog Rows.suresKnownRow.laid w0) : EsOk tbu w0 hp 74 esEnS5a8 := madeE_ok (tbu_ok w0) (msEnS5_ok hl) (start_ok hl) esEnS5a8_made
/-- circa/fillings.Check: 280 operations. -/
noncomputable def esEnS5a9 : List Entry := [⟨[q149], [], q5, []⟩,
  ⟨[q195], [], q5, []⟩,
  ⟨[q207], [], q5, []⟩,
  ⟨[q224], [], q5, []⟩,
  ⟨[q246], [], q5, []⟩]
theorem esEnS5a9_made : madeE tbu (callM tbu msEnS5 100) hp 79 esEnS5a9 = true := by kernel_rfl
theorem esEnS5a9_ok {w0 : World} (hl : laidMetH Tryz.prog Rows.suresKnownRow.laid w0) : EsOk tbu w0 hp 79 esEnS5a9 := madeE_ok (tbu_ok w0) (msEnS5_ok hl) (start_ok hl) esEnS5a9_made
end Ev
end Go.Proofs.YtlglepkdipapiaaGreatDoor

