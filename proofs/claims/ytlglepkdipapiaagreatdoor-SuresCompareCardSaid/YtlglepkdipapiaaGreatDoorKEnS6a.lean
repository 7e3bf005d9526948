/- Calls that were reckoned, level 6 (printed by genents.py). -/
import Derived.Test.YtlglepkdipapiaaGreatDoorKEnST6
/-! Calls that were reckoned, level 6 (printed by genents.py). -/
set_option linter.unusedVariables false
set_option maxRecDepth 1000000
namespace Go.Proofs.YtlglepkdipapiaaGreatDoor
open Go.RowKit
namespace Ev
/-- circa/parsers.Parse: 16233 operations. -/
noncomputable def esEnS6a0 : List Entry := [⟨[q156], [], (.tup [q157, q63, q5, q5]), []⟩,
  ⟨[q198], [], (.tup [q200, q5, q5, q5]), []⟩,
  ⟨[q211], [], (.tup [q212, q63, q5, q5]), []⟩,
  ⟨[(.v (.string ⟨#[91, 50, 48, 48, 52, 45, 48, 49, 44, 50, 48, 48, 52, 45, 48, 49, 45, 51, 49, 93]⟩))], [], q220, [(.rowU [q1, q1, q6, q5, q5, q194, q7, q0, q0, q0, q1, q1, q1, q7, q5, q5, q7, q7, q0, q0, q0, q1, q1, q6, q5, q5, q194, q206, q0, q0, q0, q1, q1, q1, q7, q5, q5, q7, q7, q0, q0, q0] 21 102)]⟩,
  ⟨[(.v (.string ⟨#[50, 48, 48, 52, 45, 48, 49, 45, 51, 49, 47]⟩))], [], (.tup [q227, q4, q5, q5]), []⟩,
  ⟨[q248], [], (.tup [q249, q63, q5, q5]), []⟩]
theorem esEnS6a0_made : madeE tbu (callM tbu msEnS6 100) hp 8 esEnS6a0 = true := by kernel_rfl
theorem esEnS6a0_ok {w0 : World} (hl : laidMetH Tryz.prog Rows.suresKnownRow.laid w0) : EsOk tbu w0 hp 8 esEnS6a0 := madeE_ok (tbu_ok w0) (msEnS6_ok hl) (start_ok hl) esEnS6a0_made
/-- circa/sures.Lengths: 6533 operations. -/
noncomputable def esEnS6a1 : List Entry := [⟨[q14], [], (.tup [q24, q24, q5]), []⟩,
  ⟨[q27], [], (.tup [q32, q32, q5]), []⟩,
  ⟨[q54], [], (.tup [q60, q60, q5]), []⟩,
  ⟨[q62], [(.rowU [q1, q1, q47, q5, q5, q7, q7, q0, q0, q0, q40, q1, q1, q49, q5, q5, q7, q7, q0, q0, q0] 21 102)], (.tup [q32, q32, q5]), []⟩,
  ⟨[q62], [(.rowU [q1, q1, q47, q5, q5, q7, q7, q0, q0, q0, q40, q1, q1, q75, q5, q5, q7, q7, q0, q0, q0] 21 102)], q46, []⟩,
  ⟨[q178], [(.rowU [q1, q1, q6, q5, q5, q7, q7, q0, q0, q0, q1, q1, q1, q7, q5, q5, q7, q7, q0, q0, q0] 21 102)], q46, []⟩,
  ⟨[q190], [], (.tup [q193, q193, q5]), []⟩,
  ⟨[q233], [], (.tup [(.agg [q4, q1]), (.agg [q5, q40]), q5]), []⟩,
  ⟨[q245], [], (.tup [(.agg [q5, q40]), (.agg [q5, q40]), q5]), []⟩]
theorem esEnS6a1_made : madeE tbu (callM tbu msEnS6 100) hp 9 esEnS6a1 = true := by kernel_rfl
theorem esEnS6a1_ok {w0 : World} (hl : laidMetH Tryz.prog Rows.suresKnownRow.laid w0) : EsOk tbu w0 hp 9 esEnS6a1 := madeE_ok (tbu_ok w0) (msEnS6_ok hl) (start_ok hl) esEnS6a1_made
/-- circa/sures.One: 242 operations. -/
noncomputable def esEnS6a2 : List Entry := [⟨[q35], [], q110, []⟩,
  ⟨[q219], [(.rowU [q1, q1, q6, q5, q5, q7, q7, q0, q0, q0, q1, q1, q1, q7, q5, q5, q7, q7, q0, q0, q0, q1, q1, q6, q5, q5, q7, q7, q0, q0, q0, q1, q1, q1, q7, q5, q5, q7, q7, q0, q0, q0] 21 102)], q135, []⟩]
theorem esEnS6a2_made : madeE tbu (callM tbu msEnS6 100) hp 10 esEnS6a2 = true := by kernel_rfl
theorem esEnS6a2_ok {w0 : World} (hl : laidMetH Tryz.prog Rows.suresKnownRow.laid w0) : EsOk tbu w0 hp 10 esEnS6a2 := madeE_ok (tbu_ok w0) (msEnS6_ok hl) (start_ok hl) esEnS6a2_made
/-- circa/sures.Days: 450 operations. -/
noncomputable def esEnS6a3 : List Entry := [⟨[q35, q105], [], (.tup [q13, q5]), []⟩,
  ⟨[q233, q105], [], q23, [(.rowU [q19, q21, q19, q21] 4 54)]⟩,
  ⟨[q236, q105], [(.rowU [q1, q1, q25, q5, q5, q7, q7, q0, q0, q0, q1, q1, q1, q7, q5, q5, q7, q7, q0, q0, q0, q1, q1, q234, q5, q5, q7, q7, q0, q0, q0, q1, q1, q1, q7, q5, q5, q7, q7, q0, q0, q0] 21 102)], q223, [(.rowU [q19, (.v (.int .i64 (730851))), q19, (.v (.int .i64 (731215))), q19, (.v (.int .i64 (731581))), q19, (.v (.int .i64 (731945)))] 4 54)]⟩]
theorem esEnS6a3_made : madeE tbu (callM tbu msEnS6 100) hp 12 esEnS6a3 = true := by kernel_rfl
theorem esEnS6a3_ok {w0 : World} (hl : laidMetH Tryz.prog Rows.suresKnownRow.laid w0) : EsOk tbu w0 hp 12 esEnS6a3 := madeE_ok (tbu_ok w0) (msEnS6_ok hl) (start_ok hl) esEnS6a3_made
/-- circa/families.Of: 722 operations. -/
noncomputable def esEnS6a4 : List Entry := [⟨[q180], [(.rowU [q1, q1, q6, q5, q5, q147, q7, q0, q0, q0, q1, q1, q1, q7, q5, q5, q7, q7, q0, q0, q0] 21 102)], q64, [(.row [q61, q13, q1, q1, q7, q5, q5, q7, q7, q0, q0, q0, q36, q19, (.v (.int .i64 (731977))), (.v (.int .i8 (1))), q5] 72)]⟩,
  ⟨[q62], [(.rowU [q1, q1, q25, q5, q5, q147, q7, q0, q0, q0, q40, q1, q1, q25, q5, q5, (.v (.string ⟨#[48, 52]⟩)), q7, q0, q0, q0] 21 102)], q64, [(.row [q61, q13, q1, q1, q7, q5, q5, q7, q7, q0, q0, q0, q36, q19, q116, q19, (.v (.int .i64 (730970)))] 72)]⟩,
  ⟨[q219], [(.rowU [q1, q1, q6, q5, q5, q194, q7, q0, q0, q0, q1, q1, q1, q7, q5, q5, q7, q7, q0, q0, q0, q1, q1, q6, q5, q5, q147, q7, q0, q0, q0, q1, q1, q1, q7, q5, q5, q7, q7, q0, q0, q0] 21 102)], q223, [(.row [q12, (.sl 18 0 1 1), q1, q1, q7, q5, q5, q7, q7, q0, q0, q0, q0, q19, q5, q19, q5, q12, (.sl 19 0 1 1), q1, q1, q7, q5, q5, q7, q7, q0, q0, q0, q0, q19, q5, q19, q5] 72), (.row [q19, q20, q19, q214] 54), (.row [q19, (.v (.int .i64 (731977))), q19, (.v (.int .i64 (732005)))] 54)]⟩,
  ⟨[q231], [], q23, [(.row [q12, (.sl 17 0 1 1), q1, q1, q7, q5, q5, q7, q7, q0, q0, q0, q0, q19, q5, q19, q5] 72), (.row [q19, (.v (.int .i64 (731977))), q19, (.v (.int .i64 (732005)))] 54)]⟩,
  ⟨[q219], [(.rowU [q1, q1, q6, q5, q5, q7, q7, q0, q0, q0, q1, q1, q1, q7, q5, q5, q7, q7, q0, q0, q0, q1, q1, q6, q5, q5, q147, q7, q0, q0, q0, q1, q1, q1, q7, q5, q5, q7, q7, q0, q0, q0] 21 102)], q223, [(.row [q12, (.sl 18 0 1 1), q1, q1, q7, q5, q5, q7, q7, q0, q0, q0, q0, q19, q5, q19, q5, q12, (.sl 19 0 1 1), q1, q1, q7, q5, q5, q7, q7, q0, q0, q0, q0, q19, q5, q19, q5] 72), (.row [q19, q20, q19, q21] 54), (.row [q19, (.v (.int .i64 (731977))), q19, (.v (.int .i64 (732005)))] 54)]⟩]
theorem esEnS6a4_made : madeE tbu (callM tbu msEnS6 100) hp 18 esEnS6a4 = true := by kernel_rfl
theorem esEnS6a4_ok {w0 : World} (hl : laidMetH Tryz.prog Rows.suresKnownRow.laid w0) : EsOk tbu w0 hp 18 esEnS6a4 := madeE_ok (tbu_ok w0) (msEnS6_ok hl) (start_ok hl) esEnS6a4_made
/-- circa/exprs.Check: 1580 operations. -/
noncomputable def esEnS6a5 : List Entry := [⟨[q157], [], q5, []⟩,
  ⟨[q200], [], q5, []⟩,
  ⟨[q212], [], q5, []⟩,
  ⟨[q219], [(.rowU [q1, q1, q6, q5, q5, q194, q7, q0, q0, q0, q1, q1, q1, q7, q5, q5, q7, q7, q0, q0, q0, q1, q1, q6, q5, q5, q194, q206, q0, q0, q0, q1, q1, q1, q7, q5, q5, q7, q7, q0, q0, q0] 21 102)], q5, []⟩,
  ⟨[q227], [], q5, []⟩,
  ⟨[q249], [], q5, []⟩]
theorem esEnS6a5_made : madeE tbu (callM tbu msEnS6 100) hp 37 esEnS6a5 = true := by kernel_rfl
theorem esEnS6a5_ok {w0 : World} (hl : laidMetH Tryz.prog Rows.suresKnownRow.laid w0) : EsOk tbu w0 hp 37 esEnS6a5 := madeE_ok (tbu_ok w0) (msEnS6_ok hl) (start_ok hl) esEnS6a5_made
/-- circa/families.date: 107 operations. -/
noncomputable def esEnS6a6 : List Entry := [⟨[q158], [], q22, [(.row [q19, (.v (.int .i64 (732006))), q19, (.v (.int .i64 (732097)))] 54)]⟩]
theorem esEnS6a6_made : madeE tbu (callM tbu msEnS6 100) hp 38 esEnS6a6 = true := by kernel_rfl
theorem esEnS6a6_ok {w0 : World} (hl : laidMetH Tryz.prog Rows.suresKnownRow.laid w0) : EsOk tbu w0 hp 38 esEnS6a6 := madeE_ok (tbu_ok w0) (msEnS6_ok hl) (start_ok hl) esEnS6a6_made
/-- circa/units.Precision: 46 operations. -/
noncomputable def esEnS6a7 : List Entry := [⟨[q149], [], (.tup [q61, q5]), []⟩]
theorem esEnS6a7_made : madeE tbu (callM tbu msEnS6 100) hp 42 esEnS6a7 = true := by kernel_rfl
theorem esEnS6a7_ok {w0 : World} (hl : laidMetH Tryz.prog Rows.suresKnownRow.laid w0) : EsOk tbu w0 hp 42 esEnS6a7 := madeE_ok (tbu_ok w0) (msEnS6_ok hl) (start_ok hl) esEnS6a7_made
/-- circa/units.Filled: 608 operations. -/
noncomputable def esEnS6a8 : List Entry := [⟨[q149, (.agg [q5, q63, q136])], [], (.tup [(.agg [q19, (.v (.int .i64 (59))), q19, (.v (.int .i64 (59)))]), q5]), []⟩,
  ⟨[q207, q209], [], (.tup [q215, q5]), []⟩,
  ⟨[q246, q209], [], (.tup [q215, q5]), []⟩,
  ⟨[q246, (.agg [q15, q94, q111])], [], (.tup [q228, q5]), []⟩]
theorem esEnS6a8_made : madeE tbu (callM tbu msEnS6 100) hp 47 esEnS6a8 = true := by kernel_rfl
theorem esEnS6a8_ok {w0 : World} (hl : laidMetH Tryz.prog Rows.suresKnownRow.laid w0) : EsOk tbu w0 hp 47 esEnS6a8 := madeE_ok (tbu_ok w0) (msEnS6_ok hl) (start_ok hl) esEnS6a8_made
/-- circa/units.Of: 668 operations. -/
noncomputable def esEnS6a9 : List Entry := [⟨[q195], [], (.tup [(.agg [q19, q20, q19, q20]), q5]), []⟩,
  ⟨[q224], [], (.tup [q215, q5]), []⟩]
theorem esEnS6a9_made : madeE tbu (callM tbu msEnS6 100) hp 74 esEnS6a9 = true := by kernel_rfl
theorem esEnS6a9_ok {w0 : World} (hl : laidMetH Tryz.prog Rows.suresKnownRow.laid w0) : EsOk tbu w0 hp 74 esEnS6a9 := madeE_ok (tbu_ok w0) (msEnS6_ok hl) (start_ok hl) esEnS6a9_made
end Ev
end Go.Proofs.YtlglepkdipapiaaGreatDoor

