/- Calls that were reckoned, level 6 (printed by genents.py). -/
import Derived.Test.YtojihkdonkblaaaGreatDoorKEnOT6
/-! Calls that were reckoned, level 6 (printed by genents.py). -/
set_option linter.unusedVariables false
set_option maxRecDepth 1000000
namespace Go.Proofs.YtojihkdonkblaaaGreatDoor
open Go.RowKit
namespace Ev
/-- circa/parsers.Parse: 9194 operations. -/
noncomputable def esEnO6a0 : List Entry := [⟨[(.v (.string ⟨#[123, 46, 46, 50, 48, 48, 52, 45, 48, 49, 45, 48, 49, 44, 50, 48, 48, 55, 125]⟩))], [], (.tup [q50, q22, q5, q5]), [(.rowU [q1, q1, q17, q5, q5, q27, q27, q0, q0, q0, q1, q1, q1, q8, q5, q5, q8, q8, q0, q0, q0, q1, q1, q48, q5, q5, q8, q8, q0, q0, q0, q1, q1, q1, q8, q5, q5, q8, q8, q0, q0, q0] 21 100)]⟩,
  ⟨[q66], [], (.tup [q68, q5, q5, q5]), []⟩,
  ⟨[q92], [], (.tup [q93, q5, q5, q5]), []⟩]
theorem esEnO6a0_made : madeE tbu (callM tbu msEnO6 100) hp 4 esEnO6a0 = true := by kernel_rfl
theorem esEnO6a0_ok {w0 : World} (hl : laidMet Tryz.prog Rows.ordersKnownRow.laid w0) : EsOk tbu w0 hp 4 esEnO6a0 := madeE_ok (tbu_ok w0) (msEnO6_ok hl) (startOk hl lay_ok hp_eq) esEnO6a0_made
/-- circa/orders.of: 150 operations. -/
noncomputable def esEnO6a1 : List Entry := [⟨[q60], [], (.tup [q123, q5]), []⟩,
  ⟨[q76], [], (.tup [q131, q5]), []⟩,
  ⟨[q82], [], (.tup [q138, q5]), []⟩]
theorem esEnO6a1_made : madeE tbu (callM tbu msEnO6 100) hp 26 esEnO6a1 = true := by kernel_rfl
theorem esEnO6a1_ok {w0 : World} (hl : laidMet Tryz.prog Rows.ordersKnownRow.laid w0) : EsOk tbu w0 hp 26 esEnO6a1 := madeE_ok (tbu_ok w0) (msEnO6_ok hl) (startOk hl lay_ok hp_eq) esEnO6a1_made
/-- circa/exprs.Check: 1389 operations. -/
noncomputable def esEnO6a2 : List Entry := [⟨[q50], [(.rowU [q1, q1, q17, q5, q5, q27, q27, q0, q0, q0, q1, q1, q1, q8, q5, q5, q8, q8, q0, q0, q0, q1, q1, q48, q5, q5, q8, q8, q0, q0, q0, q1, q1, q1, q8, q5, q5, q8, q8, q0, q0, q0] 21 100)], q5, []⟩,
  ⟨[q68], [], q5, []⟩,
  ⟨[q93], [], q5, []⟩]
theorem esEnO6a2_made : madeE tbu (callM tbu msEnO6 100) hp 30 esEnO6a2 = true := by kernel_rfl
theorem esEnO6a2_ok {w0 : World} (hl : laidMet Tryz.prog Rows.ordersKnownRow.laid w0) : EsOk tbu w0 hp 30 esEnO6a2 := madeE_ok (tbu_ok w0) (msEnO6_ok hl) (startOk hl lay_ok hp_eq) esEnO6a2_made
/-- circa/extents.Of: 5516 operations. -/
noncomputable def esEnO6a3 : List Entry := [⟨[q16], [], (.tup [(.agg [q104, q5, q101, q98]), q5]), []⟩,
  ⟨[q20], [], (.tup [q110, q5]), []⟩,
  ⟨[q21], [(.rowU [q1, q1, q17, q5, q5, q8, q8, q0, q0, q0, q1, q1, q1, q8, q5, q5, q8, q8, q0, q0, q0] 21 100)], (.tup [q110, q5]), []⟩,
  ⟨[q25], [(.rowU [q1, q1, q17, q5, q5, q8, q8, q0, q0, q0, q1, q1, q1, q8, q5, q5, q8, q8, q0, q0, q0, q1, q1, q23, q5, q5, q8, q8, q0, q0, q0, q1, q1, q1, q8, q5, q5, q8, q8, q0, q0, q0] 21 100)], (.tup [(.agg [q104, q5, q101, (.v (.int .i64 (733041)))]), q5]), []⟩,
  ⟨[q54], [], (.tup [q116, q5]), []⟩,
  ⟨[q57], [], (.tup [q117, q5]), []⟩,
  ⟨[q74], [], q128, []⟩,
  ⟨[q80], [], (.tup [q135, q5]), []⟩,
  ⟨[q83], [], (.tup [(.agg [q101, q5, (.v (.int .i8 (1))), q5]), q5]), []⟩,
  ⟨[q86], [], (.tup [q139, q5]), []⟩,
  ⟨[q96], [], (.tup [q143, q5]), []⟩,
  ⟨[q97], [], (.tup [(.agg [q101, q142, (.v (.int .i8 (1))), q5]), q5]), []⟩,
  ⟨[q149], [], q108, []⟩,
  ⟨[q155], [], q108, []⟩,
  ⟨[q156], [], (.tup [q110, q5]), []⟩,
  ⟨[q157], [], (.tup [(.agg [q101, q106, (.v (.int .i8 (1))), q5]), q5]), []⟩,
  ⟨[q160], [], (.tup [q162, q5]), []⟩,
  ⟨[q163], [], (.tup [q161, q5]), []⟩,
  ⟨[q164], [(.rowU [q1, q1, q17, q5, q5, q8, q8, q0, q0, q0, q1, q1, q1, q8, q5, q5, q8, q8, q0, q0, q0] 21 100)], q108, []⟩]
theorem esEnO6a3_made : madeE tbu (callM tbu msEnO6 100) hp 46 esEnO6a3 = true := by kernel_rfl
theorem esEnO6a3_ok {w0 : World} (hl : laidMet Tryz.prog Rows.ordersKnownRow.laid w0) : EsOk tbu w0 hp 46 esEnO6a3 := madeE_ok (tbu_ok w0) (msEnO6_ok hl) (startOk hl lay_ok hp_eq) esEnO6a3_made
/-- circa/families.Of: 150 operations. -/
noncomputable def esEnO6a4 : List Entry := [⟨[q72], [], q105, [(.row [q14, (.sl 15 0 1 1), q1, q1, q8, q5, q5, q8, q8, q0, q0, q0, q0, q101, q5, q101, q5] 136), (.row [q101, q5, q101, q41] 64)]⟩,
  ⟨[q152], [], q105, [(.row [q14, (.sl 15 0 1 1), q1, q1, q8, q5, q5, q8, q8, q0, q0, q0, q0, q101, q5, q101, q5] 136), (.row [q101, q106, q101, (.v (.int .i64 (731976)))] 64)]⟩,
  ⟨[q168], [], q105, [(.row [q14, (.sl 15 0 1 1), q1, q1, q8, q5, q5, q8, q8, q0, q0, q0, q0, q101, q5, q101, q5] 136), (.row [q101, (.v (.int .i64 (731915))), q101, (.v (.int .i64 (731945)))] 64)]⟩]
theorem esEnO6a4_made : madeE tbu (callM tbu msEnO6 100) hp 68 esEnO6a4 = true := by kernel_rfl
theorem esEnO6a4_ok {w0 : World} (hl : laidMet Tryz.prog Rows.ordersKnownRow.laid w0) : EsOk tbu w0 hp 68 esEnO6a4 := madeE_ok (tbu_ok w0) (msEnO6_ok hl) (startOk hl lay_ok hp_eq) esEnO6a4_made
/-- circa/units.Of: 1002 operations. -/
noncomputable def esEnO6a5 : List Entry := [⟨[q28], [], (.tup [(.agg [q101, q106, q101, q106]), q5]), []⟩,
  ⟨[q62], [], q124, []⟩,
  ⟨[q89], [], (.tup [q140, q5]), []⟩]
theorem esEnO6a5_made : madeE tbu (callM tbu msEnO6 100) hp 178 esEnO6a5 = true := by kernel_rfl
theorem esEnO6a5_ok {w0 : World} (hl : laidMet Tryz.prog Rows.ordersKnownRow.laid w0) : EsOk tbu w0 hp 178 esEnO6a5 := madeE_ok (tbu_ok w0) (msEnO6_ok hl) (startOk hl lay_ok hp_eq) esEnO6a5_made
end Ev
end Go.Proofs.YtojihkdonkblaaaGreatDoor

