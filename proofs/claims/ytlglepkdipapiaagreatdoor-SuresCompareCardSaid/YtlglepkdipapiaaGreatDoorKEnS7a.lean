/- Calls that were reckoned, level 7 (printed by genents.py). -/
import Derived.Test.YtlglepkdipapiaaGreatDoorKEnST7
/-! Calls that were reckoned, level 7 (printed by genents.py). -/
set_option linter.unusedVariables false
set_option maxRecDepth 1000000
namespace Go.Proofs.YtlglepkdipapiaaGreatDoor
open Go.RowKit
namespace Ev
/-- circa/sures.Lengths: 1976 operations. -/
noncomputable def esEnS7a0 : List Entry := [⟨[q180], [(.rowU [q1, q1, q6, q5, q5, q147, q7, q0, q0, q0, q1, q1, q1, q7, q5, q5, q7, q7, q0, q0, q0] 21 102)], q121, []⟩,
  ⟨[q62], [(.rowU [q1, q1, q25, q5, q5, q147, q7, q0, q0, q0, q40, q1, q1, q25, q5, q5, (.v (.string ⟨#[48, 52]⟩)), q7, q0, q0, q0] 21 102)], q121, []⟩]
theorem esEnS7a0_made : madeE tbu (callM tbu msEnS7 100) hp 9 esEnS7a0 = true := by kernel_rfl
theorem esEnS7a0_ok {w0 : World} (hl : laidMetH Tryz.prog Rows.suresKnownRow.laid w0) : EsOk tbu w0 hp 9 esEnS7a0 := madeE_ok (tbu_ok w0) (msEnS7_ok hl) (start_ok hl) esEnS7a0_made
/-- circa/circalaw37.read: 184 operations. -/
noncomputable def esEnS7a1 : List Entry := [⟨[q211], [], q212, []⟩,
  ⟨[(.v (.string ⟨#[91, 50, 48, 48, 52, 45, 48, 49, 44, 50, 48, 48, 52, 45, 48, 49, 45, 51, 49, 93]⟩))], [], q219, [(.rowU [q1, q1, q6, q5, q5, q194, q7, q0, q0, q0, q1, q1, q1, q7, q5, q5, q7, q7, q0, q0, q0, q1, q1, q6, q5, q5, q194, q206, q0, q0, q0, q1, q1, q1, q7, q5, q5, q7, q7, q0, q0, q0] 21 102)]⟩,
  ⟨[(.v (.string ⟨#[50, 48, 48, 52, 45, 48, 49, 45, 51, 49, 47]⟩))], [], q227, []⟩,
  ⟨[q248], [], q249, []⟩]
theorem esEnS7a1_made : madeE tbu (callM tbu msEnS7 100) hp 11 esEnS7a1 = true := by kernel_rfl
theorem esEnS7a1_ok {w0 : World} (hl : laidMetH Tryz.prog Rows.suresKnownRow.laid w0) : EsOk tbu w0 hp 11 esEnS7a1 := madeE_ok (tbu_ok w0) (msEnS7_ok hl) (start_ok hl) esEnS7a1_made
/-- circa/sures.Days: 18251 operations. -/
noncomputable def esEnS7a2 : List Entry := [⟨[q219, q105], [(.rowU [q1, q1, q6, q5, q5, q194, q7, q0, q0, q0, q1, q1, q1, q7, q5, q5, q7, q7, q0, q0, q0, q1, q1, q6, q5, q5, q147, q7, q0, q0, q0, q1, q1, q1, q7, q5, q5, q7, q7, q0, q0, q0] 21 102)], (.tup [q13, q5]), []⟩,
  ⟨[q231, q105], [], q23, [(.rowU [q19, (.v (.int .i64 (731977))), q19, (.v (.int .i64 (732005)))] 4 54)]⟩,
  ⟨[q219, q105], [(.rowU [q1, q1, q6, q5, q5, q7, q7, q0, q0, q0, q1, q1, q1, q7, q5, q5, q7, q7, q0, q0, q0, q1, q1, q6, q5, q5, q147, q7, q0, q0, q0, q1, q1, q1, q7, q5, q5, q7, q7, q0, q0, q0] 21 102)], q64, [(.rowU [q19, (.v (.int .i64 (731977))), q19, (.v (.int .i64 (732005)))] 4 54)]⟩,
  ⟨[q231, q5], [], (.tup [q13, q144]), []⟩]
theorem esEnS7a2_made : madeE tbu (callM tbu msEnS7 100) hp 12 esEnS7a2 = true := by kernel_rfl
theorem esEnS7a2_ok {w0 : World} (hl : laidMetH Tryz.prog Rows.suresKnownRow.laid w0) : EsOk tbu w0 hp 12 esEnS7a2 := madeE_ok (tbu_ok w0) (msEnS7_ok hl) (start_ok hl) esEnS7a2_made
/-- circa/families.Of: 200 operations. -/
noncomputable def esEnS7a3 : List Entry := [⟨[q157], [], q23, [(.row [q36, q13, q1, q1, q146, q5, q5, q147, q148, q0, q0, q0, q0, q19, q5, q19, q5] 72)]⟩,
  ⟨[q161], [], q23, [(.row [q12, (.sl 17 0 1 1), q1, q1, q7, q5, q5, q7, q7, q0, q0, q0, q0, q19, q5, q19, q5] 72), (.row [q19, (.v (.int .i64 (732006))), q19, (.v (.int .i64 (732097)))] 54)]⟩,
  ⟨[q212], [], q23, [(.row [q36, q13, q1, q1, q6, q5, q5, q205, q206, q0, q0, q0, q0, q19, q5, q19, q5] 72)]⟩,
  ⟨[q249], [], q23, [(.row [q36, q13, q1, q1, q6, q5, q5, q92, q206, q0, q0, q0, q0, q19, q5, q19, q5] 72)]⟩]
theorem esEnS7a3_made : madeE tbu (callM tbu msEnS7 100) hp 18 esEnS7a3 = true := by kernel_rfl
theorem esEnS7a3_ok {w0 : World} (hl : laidMetH Tryz.prog Rows.suresKnownRow.laid w0) : EsOk tbu w0 hp 18 esEnS7a3 := madeE_ok (tbu_ok w0) (msEnS7_ok hl) (start_ok hl) esEnS7a3_made
/-- circa/families.date: 214 operations. -/
noncomputable def esEnS7a4 : List Entry := [⟨[q195], [], q22, [(.row [q19, q20, q19, q20] 54)]⟩,
  ⟨[q224], [], q22, [(.row [q19, q214, q19, q214] 54)]⟩]
theorem esEnS7a4_made : madeE tbu (callM tbu msEnS7 100) hp 38 esEnS7a4 = true := by kernel_rfl
theorem esEnS7a4_ok {w0 : World} (hl : laidMetH Tryz.prog Rows.suresKnownRow.laid w0) : EsOk tbu w0 hp 38 esEnS7a4 := madeE_ok (tbu_ok w0) (msEnS7_ok hl) (start_ok hl) esEnS7a4_made
/-- circa/families.interval: 156 operations. -/
noncomputable def esEnS7a5 : List Entry := [⟨[q227], [], (.agg [(.v (.int .u8 (5))), q13, q1, q1, q7, q5, q5, q7, q7, q0, q0, q0, q0, q19, q214, (.v (.int .i8 (1))), q5]), []⟩]
theorem esEnS7a5_made : madeE tbu (callM tbu msEnS7 100) hp 39 esEnS7a5 = true := by kernel_rfl
theorem esEnS7a5_ok {w0 : World} (hl : laidMetH Tryz.prog Rows.suresKnownRow.laid w0) : EsOk tbu w0 hp 39 esEnS7a5 := madeE_ok (tbu_ok w0) (msEnS7_ok hl) (start_ok hl) esEnS7a5_made
/-- circa/seeks.First: 1292 operations. -/
noncomputable def esEnS7a6 : List Entry := [⟨[q213], [], (.tup [q215, q40, q5]), []⟩,
  ⟨[q250], [], (.tup [q215, q40, q5]), []⟩]
theorem esEnS7a6_made : madeE tbu (callM tbu msEnS7 100) hp 51 esEnS7a6 = true := by kernel_rfl
theorem esEnS7a6_ok {w0 : World} (hl : laidMetH Tryz.prog Rows.suresKnownRow.laid w0) : EsOk tbu w0 hp 51 esEnS7a6 := madeE_ok (tbu_ok w0) (msEnS7_ok hl) (start_ok hl) esEnS7a6_made
/-- circa/seeks.Last: 1292 operations. -/
noncomputable def esEnS7a7 : List Entry := [⟨[q213], [], (.tup [q215, q40, q5]), []⟩,
  ⟨[q250], [], (.tup [q228, q40, q5]), []⟩]
theorem esEnS7a7_made : madeE tbu (callM tbu msEnS7 100) hp 52 esEnS7a7 = true := by kernel_rfl
theorem esEnS7a7_ok {w0 : World} (hl : laidMetH Tryz.prog Rows.suresKnownRow.laid w0) : EsOk tbu w0 hp 52 esEnS7a7 := madeE_ok (tbu_ok w0) (msEnS7_ok hl) (start_ok hl) esEnS7a7_made
end Ev
end Go.Proofs.YtlglepkdipapiaaGreatDoor

