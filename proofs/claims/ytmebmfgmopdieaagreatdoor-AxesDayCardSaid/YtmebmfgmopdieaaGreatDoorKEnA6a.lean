/- Calls that were reckoned, level 6 (printed by genents.py). -/
import Derived.Test.YtmebmfgmopdieaaGreatDoorKEnAT6
/-! Calls that were reckoned, level 6 (printed by genents.py). -/
set_option linter.unusedVariables false
set_option maxRecDepth 1000000
namespace Go.Proofs.YtmebmfgmopdieaaGreatDoor
open Go.RowKit
namespace Ev
/-- circa/circalaw36.read: 92 operations. -/
noncomputable def esEnA6a0 : List Entry := [⟨[(.v (.string ⟨#[89, 45, 49, 69, 49, 54, 47, 89, 49, 69, 49, 54]⟩))], [], q25, []⟩,
  ⟨[(.v (.string ⟨#[46, 46, 47, 50, 48, 48, 52]⟩))], [], q62, []⟩]
theorem esEnA6a0_made : madeE tbu (callM tbu msEnA6 100) hp 16 esEnA6a0 = true := by kernel_rfl
theorem esEnA6a0_ok {w0 : World} (hl : laidMetH Tryz.prog Rows.axesKnownRow.laid w0) : EsOk tbu w0 hp 16 esEnA6a0 := madeE_ok (tbu_ok w0) (msEnA6_ok hl) (start_ok hl) esEnA6a0_made
/-- circa/axes.Inside: 260 operations. -/
noncomputable def esEnA6a1 : List Entry := [⟨[q53, (.v (.float .f64 14114660445051763968))], [(.rowU [q1, q1, q50, q5, q5, q9, q9, q0, q0, q0, q1, q1, q1, q9, q5, q5, q9, q9, q0, q0, q0] 21 123)], q54, []⟩,
  ⟨[q53, (.v (.float .f64 18442240474082181120))], [(.rowU [q1, q1, q50, q5, q5, q9, q9, q0, q0, q0, q1, q1, q1, q9, q5, q5, q9, q9, q0, q0, q0] 21 123)], q54, []⟩]
theorem esEnA6a1_made : madeE tbu (callM tbu msEnA6 100) hp 20 esEnA6a1 = true := by kernel_rfl
theorem esEnA6a1_ok {w0 : World} (hl : laidMetH Tryz.prog Rows.axesKnownRow.laid w0) : EsOk tbu w0 hp 20 esEnA6a1 := madeE_ok (tbu_ok w0) (msEnA6_ok hl) (start_ok hl) esEnA6a1_made
/-- circa/extents.Of: 146 operations. -/
noncomputable def esEnA6a2 : List Entry := [⟨[q84], [], (.tup [q86, q5]), []⟩]
theorem esEnA6a2_made : madeE tbu (callM tbu msEnA6 100) hp 43 esEnA6a2 = true := by kernel_rfl
theorem esEnA6a2_ok {w0 : World} (hl : laidMetH Tryz.prog Rows.axesKnownRow.laid w0) : EsOk tbu w0 hp 43 esEnA6a2 := madeE_ok (tbu_ok w0) (msEnA6_ok hl) (start_ok hl) esEnA6a2_made
/-- circa/members.Has: 9626 operations. -/
noncomputable def esEnA6a3 : List Entry := [⟨[q53, (.v (.int .i64 (-9000000000000000000)))], [(.rowU [q1, q1, q50, q5, q5, q9, q9, q0, q0, q0, q1, q1, q1, q9, q5, q5, q9, q9, q0, q0, q0] 21 123)], (.tup [q23, q5]), []⟩,
  ⟨[q89, (.v (.int .i64 (365)))], [], (.tup [q52, q5]), []⟩,
  ⟨[q89, (.v (.int .i64 (366)))], [], q54, []⟩]
theorem esEnA6a3_made : madeE tbu (callM tbu msEnA6 100) hp 47 esEnA6a3 = true := by kernel_rfl
theorem esEnA6a3_ok {w0 : World} (hl : laidMetH Tryz.prog Rows.axesKnownRow.laid w0) : EsOk tbu w0 hp 47 esEnA6a3 := madeE_ok (tbu_ok w0) (msEnA6_ok hl) (start_ok hl) esEnA6a3_made
/-- circa/families.Of: 204 operations. -/
noncomputable def esEnA6a4 : List Entry := [⟨[q25], [], q27, [(.row [q14, (.sl 16 0 1 1), q1, q1, q9, q5, q5, q9, q9, q0, q0, q0, q0, q19, q5, q19, q5] 95), (.row [q19, (.v (.int .i64 (-3652425000000000000))), q19, (.v (.int .i64 (3652425000000000365)))] 26)]⟩,
  ⟨[q62], [], q27, [(.row [q14, (.sl 16 0 1 1), q1, q1, q9, q5, q5, q9, q9, q0, q0, q0, q0, q19, q5, q19, q5] 95), (.row [(.v (.int .i8 (-1))), q5, q19, q55] 26)]⟩,
  ⟨[q92], [], q27, [(.row [q14, (.sl 16 0 1 1), q1, q1, q9, q5, q5, q9, q9, q0, q0, q0, q0, q19, q5, q19, q5] 95), (.row [q19, q5, (.v (.int .i8 (1))), q5] 26)]⟩,
  ⟨[q93], [], q27, [(.row [(.v (.int .u8 (5))), q24, q1, q1, q9, q5, q5, q9, q9, q0, q0, q0, q0, q19, q5, (.v (.int .i8 (1))), q5] 95)]⟩]
theorem esEnA6a4_made : madeE tbu (callM tbu msEnA6 100) hp 48 esEnA6a4 = true := by kernel_rfl
theorem esEnA6a4_ok {w0 : World} (hl : laidMetH Tryz.prog Rows.axesKnownRow.laid w0) : EsOk tbu w0 hp 48 esEnA6a4 := madeE_ok (tbu_ok w0) (msEnA6_ok hl) (start_ok hl) esEnA6a4_made
/-- circa/units.Of: 668 operations. -/
noncomputable def esEnA6a5 : List Entry := [⟨[q66], [], (.tup [(.agg [q19, q5, q19, q5]), q5]), []⟩,
  ⟨[q73], [], (.tup [(.agg [q19, q4, q19, q4]), q5]), []⟩]
theorem esEnA6a5_made : madeE tbu (callM tbu msEnA6 100) hp 107 esEnA6a5 = true := by kernel_rfl
theorem esEnA6a5_ok {w0 : World} (hl : laidMetH Tryz.prog Rows.axesKnownRow.laid w0) : EsOk tbu w0 hp 107 esEnA6a5 := madeE_ok (tbu_ok w0) (msEnA6_ok hl) (start_ok hl) esEnA6a5_made
/-- circa/bounds.Check: 218 operations. -/
noncomputable def esEnA6a6 : List Entry := [⟨[q71], [], q5, []⟩,
  ⟨[q76], [], q5, []⟩]
theorem esEnA6a6_made : madeE tbu (callM tbu msEnA6 100) hp 137 esEnA6a6 = true := by kernel_rfl
theorem esEnA6a6_ok {w0 : World} (hl : laidMetH Tryz.prog Rows.axesKnownRow.laid w0) : EsOk tbu w0 hp 137 esEnA6a6 := madeE_ok (tbu_ok w0) (msEnA6_ok hl) (start_ok hl) esEnA6a6_made
/-- circa/bounds.Days: 3170 operations. -/
noncomputable def esEnA6a7 : List Entry := [⟨[q66], [], (.tup [(.agg [q19, q5, q19, q5]), q5]), []⟩,
  ⟨[q73], [], (.tup [(.agg [q19, q4, q19, q4]), q5]), []⟩]
theorem esEnA6a7_made : madeE tbu (callM tbu msEnA6 100) hp 141 esEnA6a7 = true := by kernel_rfl
theorem esEnA6a7_ok {w0 : World} (hl : laidMetH Tryz.prog Rows.axesKnownRow.laid w0) : EsOk tbu w0 hp 141 esEnA6a7 := madeE_ok (tbu_ok w0) (msEnA6_ok hl) (start_ok hl) esEnA6a7_made
end Ev
end Go.Proofs.YtmebmfgmopdieaaGreatDoor

