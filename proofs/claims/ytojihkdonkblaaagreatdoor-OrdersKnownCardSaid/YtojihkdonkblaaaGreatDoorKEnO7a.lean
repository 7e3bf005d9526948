/- Calls that were reckoned, level 7 (printed by genents.py). -/
import Derived.Test.YtojihkdonkblaaaGreatDoorKEnOT7
/-! Calls that were reckoned, level 7 (printed by genents.py). -/
set_option linter.unusedVariables false
set_option maxRecDepth 1000000
namespace Go.Proofs.YtojihkdonkblaaaGreatDoor
open Go.RowKit
namespace Ev
/-- circa/orders.Compare: 7212 operations. -/
noncomputable def esEnO7a0 : List Entry := [⟨[q60, q60], [], q64, []⟩,
  ⟨[q60, q76], [], q99, []⟩,
  ⟨[q60, q82], [], q99, []⟩,
  ⟨[q76, q60], [], q145, []⟩,
  ⟨[q76, q76], [], q64, []⟩,
  ⟨[q76, q82], [], q99, []⟩,
  ⟨[q82, q60], [], q145, []⟩,
  ⟨[q82, q76], [], q145, []⟩,
  ⟨[q82, q82], [], q64, []⟩]
theorem esEnO7a0_made : madeE tbu (callM tbu msEnO7 100) hp 5 esEnO7a0 = true := by kernel_rfl
theorem esEnO7a0_ok {w0 : World} (hl : laidMet Tryz.prog Rows.ordersKnownRow.laid w0) : EsOk tbu w0 hp 5 esEnO7a0 := madeE_ok (tbu_ok w0) (msEnO7_ok hl) (startOk hl lay_ok hp_eq) esEnO7a0_made
/-- circa/orders.of: 950 operations. -/
noncomputable def esEnO7a1 : List Entry := [⟨[q16], [], (.tup [(.agg [q104, q5, q101, q98]), q5]), []⟩,
  ⟨[q20], [], (.tup [q110, q5]), []⟩,
  ⟨[q21], [(.rowU [q1, q1, q17, q5, q5, q8, q8, q0, q0, q0, q1, q1, q1, q8, q5, q5, q8, q8, q0, q0, q0] 21 100)], (.tup [q110, q5]), []⟩,
  ⟨[q25], [(.rowU [q1, q1, q17, q5, q5, q8, q8, q0, q0, q0, q1, q1, q1, q8, q5, q5, q8, q8, q0, q0, q0, q1, q1, q23, q5, q5, q8, q8, q0, q0, q0, q1, q1, q1, q8, q5, q5, q8, q8, q0, q0, q0] 21 100)], (.tup [(.agg [q104, q5, q101, (.v (.int .i64 (733041)))]), q5]), []⟩,
  ⟨[q54], [], (.tup [q116, q5]), []⟩,
  ⟨[q57], [], (.tup [q117, q5]), []⟩,
  ⟨[q74], [], q128, []⟩,
  ⟨[q80], [], (.tup [q135, q5]), []⟩,
  ⟨[q83], [], (.tup [(.agg [q101, q5, (.v (.int .i8 (1))), q5]), q5]), []⟩,
  ⟨[q86], [], (.tup [q139, q5]), []⟩,
  ⟨[q96], [], (.tup [q143, q5]), []⟩,
  ⟨[q97], [], (.tup [(.agg [q101, q142, (.v (.int .i8 (1))), q5]), q5]), []⟩,
  ⟨[q149], [], q108, []⟩,
  ⟨[q155], [], q108, []⟩,
  ⟨[q156], [], (.tup [q110, q5]), []⟩,
  ⟨[q157], [], (.tup [(.agg [q101, q106, (.v (.int .i8 (1))), q5]), q5]), []⟩,
  ⟨[q160], [], (.tup [q162, q5]), []⟩,
  ⟨[q163], [], (.tup [q161, q5]), []⟩,
  ⟨[q164], [(.rowU [q1, q1, q17, q5, q5, q8, q8, q0, q0, q0, q1, q1, q1, q8, q5, q5, q8, q8, q0, q0, q0] 21 100)], q108, []⟩]
theorem esEnO7a1_made : madeE tbu (callM tbu msEnO7 100) hp 26 esEnO7a1 = true := by kernel_rfl
theorem esEnO7a1_ok {w0 : World} (hl : laidMet Tryz.prog Rows.ordersKnownRow.laid w0) : EsOk tbu w0 hp 26 esEnO7a1 := madeE_ok (tbu_ok w0) (msEnO7_ok hl) (startOk hl lay_ok hp_eq) esEnO7a1_made
/-- circa/extents.Of: 189 operations. -/
noncomputable def esEnO7a2 : List Entry := [⟨[q72], [], q125, []⟩,
  ⟨[q152], [], (.tup [q153, q5]), []⟩,
  ⟨[q168], [], (.tup [q170, q5]), []⟩]
theorem esEnO7a2_made : madeE tbu (callM tbu msEnO7 100) hp 46 esEnO7a2 = true := by kernel_rfl
theorem esEnO7a2_ok {w0 : World} (hl : laidMet Tryz.prog Rows.ordersKnownRow.laid w0) : EsOk tbu w0 hp 46 esEnO7a2 := madeE_ok (tbu_ok w0) (msEnO7_ok hl) (startOk hl lay_ok hp_eq) esEnO7a2_made
/-- circa/families.date: 214 operations. -/
noncomputable def esEnO7a3 : List Entry := [⟨[q62], [], q103, [(.row [q101, q5, q101, q5] 64)]⟩,
  ⟨[q89], [], q103, [(.row [q101, (.v (.int .i64 (694019))), q101, (.v (.int .i64 (694019)))] 64)]⟩]
theorem esEnO7a3_made : madeE tbu (callM tbu msEnO7 100) hp 116 esEnO7a3 = true := by kernel_rfl
theorem esEnO7a3_ok {w0 : World} (hl : laidMet Tryz.prog Rows.ordersKnownRow.laid w0) : EsOk tbu w0 hp 116 esEnO7a3 := madeE_ok (tbu_ok w0) (msEnO7_ok hl) (startOk hl lay_ok hp_eq) esEnO7a3_made
/-- circa/families.span: 54 operations. -/
noncomputable def esEnO7a4 : List Entry := [⟨[(.agg [q1, q1, q17, q5, q5, q27, q27, q0, q0, q0, q1, q1, q1, q8, q5, q5, q8, q8, q0, q0, q0]), q6, q1], [], (.agg [q104, q5, q101, q106]), []⟩]
theorem esEnO7a4_made : madeE tbu (callM tbu msEnO7 100) hp 119 esEnO7a4 = true := by kernel_rfl
theorem esEnO7a4_ok {w0 : World} (hl : laidMet Tryz.prog Rows.ordersKnownRow.laid w0) : EsOk tbu w0 hp 119 esEnO7a4 := madeE_ok (tbu_ok w0) (msEnO7_ok hl) (startOk hl lay_ok hp_eq) esEnO7a4_made
end Ev
end Go.Proofs.YtojihkdonkblaaaGreatDoor

