/- Calls that were reckoned, level 5 (printed by genents.py). -/
import Derived.Test.YtmebmfgmopdieaaGreatDoorKEnAT5
/-! Calls that were reckoned, level 5 (printed by genents.py). -/
set_option linter.unusedVariables false
set_option maxRecDepth 1000000
namespace Go.Proofs.YtmebmfgmopdieaaGreatDoor
open Go.RowKit
namespace Ev
/-- circa/circalaw36.read: 92 operations. -/
noncomputable def esEnA5a0 : List Entry := [⟨[(.v (.string ⟨#[48, 48, 48, 48, 47, 46, 46]⟩))], [], q92, []⟩,
  ⟨[(.v (.string ⟨#[48, 48, 48, 48, 47]⟩))], [], q93, []⟩]
theorem esEnA5a0_made : madeE tbu (callM tbu msEnA5 100) hp 16 esEnA5a0 = true := by kernel_rfl
theorem esEnA5a0_ok {w0 : World} (hl : laidMetH Tryz.prog Rows.axesKnownRow.laid w0) : EsOk tbu w0 hp 16 esEnA5a0 := madeE_ok (tbu_ok w0) (msEnA5_ok hl) (start_ok hl) esEnA5a0_made
/-- circa/parsers.Parse: 6229 operations. -/
noncomputable def esEnA5a1 : List Entry := [⟨[(.v (.string ⟨#[89, 45, 49, 69, 49, 54, 47, 89, 49, 69, 49, 54]⟩))], [], (.tup [q25, q13, q5, q5]), []⟩,
  ⟨[(.v (.string ⟨#[46, 46, 47, 50, 48, 48, 52]⟩))], [], (.tup [q62, q4, q5, q5]), []⟩]
theorem esEnA5a1_made : madeE tbu (callM tbu msEnA5 100) hp 44 esEnA5a1 = true := by kernel_rfl
theorem esEnA5a1_ok {w0 : World} (hl : laidMetH Tryz.prog Rows.axesKnownRow.laid w0) : EsOk tbu w0 hp 44 esEnA5a1 := madeE_ok (tbu_ok w0) (msEnA5_ok hl) (start_ok hl) esEnA5a1_made
/-- circa/exprs.Check: 544 operations. -/
noncomputable def esEnA5a2 : List Entry := [⟨[q25], [], q5, []⟩,
  ⟨[q62], [], q5, []⟩,
  ⟨[q92], [], q5, []⟩,
  ⟨[q93], [], q5, []⟩]
theorem esEnA5a2_made : madeE tbu (callM tbu msEnA5 100) hp 46 esEnA5a2 = true := by kernel_rfl
theorem esEnA5a2_ok {w0 : World} (hl : laidMetH Tryz.prog Rows.axesKnownRow.laid w0) : EsOk tbu w0 hp 46 esEnA5a2 := madeE_ok (tbu_ok w0) (msEnA5_ok hl) (start_ok hl) esEnA5a2_made
/-- circa/families.Of: 244 operations. -/
noncomputable def esEnA5a3 : List Entry := [⟨[q53], [(.rowU [q1, q1, q50, q5, q5, q9, q9, q0, q0, q0, q1, q1, q1, q9, q5, q5, q9, q9, q0, q0, q0] 21 123)], (.tup [(.sl 16 0 1 1), q5]), [(.row [q52, q24, q1, q1, q9, q5, q5, q9, q9, q0, q0, q0, q14, (.v (.int .i8 (-1))), q5, q19, q55] 95)]⟩,
  ⟨[q84], [], q27, [(.row [q14, (.sl 16 0 1 1), q1, q1, q9, q5, q5, q9, q9, q0, q0, q0, q0, q19, q5, q19, q5] 95), (.row [q19, (.v (.int .i64 (3652424999999999635))), q19, (.v (.int .i64 (3652424999999999999)))] 26)]⟩,
  ⟨[q89], [], q27, [(.row [q14, (.sl 16 0 1 1), q1, q1, q9, q5, q5, q9, q9, q0, q0, q0, q0, q19, q5, q19, q5] 95), (.row [q19, q5, q19, (.v (.int .i64 (365)))] 26)]⟩]
theorem esEnA5a3_made : madeE tbu (callM tbu msEnA5 100) hp 48 esEnA5a3 = true := by kernel_rfl
theorem esEnA5a3_ok {w0 : World} (hl : laidMetH Tryz.prog Rows.axesKnownRow.laid w0) : EsOk tbu w0 hp 48 esEnA5a3 := madeE_ok (tbu_ok w0) (msEnA5_ok hl) (start_ok hl) esEnA5a3_made
/-- circa/fillings.Check: 112 operations. -/
noncomputable def esEnA5a4 : List Entry := [⟨[q66], [], q5, []⟩,
  ⟨[q73], [], q5, []⟩]
theorem esEnA5a4_made : madeE tbu (callM tbu msEnA5 100) hp 99 esEnA5a4 = true := by kernel_rfl
theorem esEnA5a4_ok {w0 : World} (hl : laidMetH Tryz.prog Rows.axesKnownRow.laid w0) : EsOk tbu w0 hp 99 esEnA5a4 := madeE_ok (tbu_ok w0) (msEnA5_ok hl) (start_ok hl) esEnA5a4_made
end Ev
end Go.Proofs.YtmebmfgmopdieaaGreatDoor

