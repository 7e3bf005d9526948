/- Calls that were reckoned, level 5 (printed by genents.py). -/
import Derived.Test.YtojihkdonkblaaaGreatDoorKEnOT5
/-! Calls that were reckoned, level 5 (printed by genents.py). -/
set_option linter.unusedVariables false
set_option maxRecDepth 1000000
namespace Go.Proofs.YtojihkdonkblaaaGreatDoor
open Go.RowKit
namespace Ev
/-- circa/extents.Of: 189 operations. -/
noncomputable def esEnO5a0 : List Entry := [⟨[q60], [], (.tup [q123, q5]), []⟩,
  ⟨[q76], [], (.tup [q131, q5]), []⟩,
  ⟨[q82], [], (.tup [q138, q5]), []⟩]
theorem esEnO5a0_made : madeE tbu (callM tbu msEnO5 100) hp 46 esEnO5a0 = true := by kernel_rfl
theorem esEnO5a0_ok {w0 : World} (hl : laidMet Tryz.prog Rows.ordersKnownRow.laid w0) : EsOk tbu w0 hp 46 esEnO5a0 := madeE_ok (tbu_ok w0) (msEnO5_ok hl) (startOk hl lay_ok hp_eq) esEnO5a0_made
/-- circa/fillings.Check: 168 operations. -/
noncomputable def esEnO5a1 : List Entry := [⟨[q28], [], q5, []⟩,
  ⟨[q62], [], q5, []⟩,
  ⟨[q89], [], q5, []⟩]
theorem esEnO5a1_made : madeE tbu (callM tbu msEnO5 100) hp 55 esEnO5a1 = true := by kernel_rfl
theorem esEnO5a1_ok {w0 : World} (hl : laidMet Tryz.prog Rows.ordersKnownRow.laid w0) : EsOk tbu w0 hp 55 esEnO5a1 := madeE_ok (tbu_ok w0) (msEnO5_ok hl) (startOk hl lay_ok hp_eq) esEnO5a1_made
/-- circa/families.Of: 1237 operations. -/
noncomputable def esEnO5a2 : List Entry := [⟨[q16], [], q105, [(.row [q14, (.sl 15 0 1 1), q1, q1, q8, q5, q5, q8, q8, q0, q0, q0, q0, q101, q5, q101, q5] 136), (.row [q104, q5, q101, q98] 64)]⟩,
  ⟨[q20], [], q105, [(.row [(.v (.int .u8 (4))), q15, q1, q1, q8, q5, q5, q8, q8, q0, q0, q0, q0, q104, q5, q101, q107] 136)]⟩,
  ⟨[q21], [(.rowU [q1, q1, q17, q5, q5, q8, q8, q0, q0, q0, q1, q1, q1, q8, q5, q5, q8, q8, q0, q0, q0] 21 100)], q111, [(.row [q19, q15, q1, q1, q8, q5, q5, q8, q8, q0, q0, q0, q14, q104, q5, q101, q107] 136)]⟩,
  ⟨[q25], [(.rowU [q1, q1, q17, q5, q5, q8, q8, q0, q0, q0, q1, q1, q1, q8, q5, q5, q8, q8, q0, q0, q0, q1, q1, q23, q5, q5, q8, q8, q0, q0, q0, q1, q1, q1, q8, q5, q5, q8, q8, q0, q0, q0] 21 100)], (.tup [(.sl 15 0 2 2), q5]), [(.row [q19, q15, q1, q1, q8, q5, q5, q8, q8, q0, q0, q0, q14, q104, q5, q101, q107, q14, (.sl 16 0 1 1), q1, q1, q8, q5, q5, q8, q8, q0, q0, q0, q0, q101, q5, q101, q5] 136), (.row [q101, (.v (.int .i64 (732677))), q101, (.v (.int .i64 (733041)))] 64)]⟩,
  ⟨[q54], [], q105, [(.row [q14, (.sl 15 0 1 1), q1, q1, q8, q5, q5, q8, q8, q0, q0, q0, q0, q101, q5, q101, q5] 136), (.row [q101, (.v (.int .i64 (-3652425000000000000))), q101, (.v (.int .i64 (-3652424999999999635)))] 64)]⟩,
  ⟨[q57], [], q105, [(.row [q14, (.sl 15 0 1 1), q1, q1, q8, q5, q5, q8, q8, q0, q0, q0, q0, q101, q5, q101, q5] 136), (.row [q101, (.v (.int .i64 (-3652059))), q101, (.v (.int .i64 (-3651695)))] 64)]⟩,
  ⟨[q74], [], q105, [(.row [q14, (.sl 15 0 1 1), q1, q1, q8, q5, q5, q8, q8, q0, q0, q0, q0, q101, q5, q101, q5] 136), (.row [q101, q5, q101, (.v (.int .i64 (365)))] 64)]⟩,
  ⟨[q83], [], q105, [(.row [q14, (.sl 15 0 1 1), q1, q1, q8, q5, q5, q8, q8, q0, q0, q0, q0, q101, q5, q101, q5] 136), (.row [q101, q5, (.v (.int .i8 (1))), q5] 64)]⟩,
  ⟨[q86], [], q105, [(.row [q14, (.sl 15 0 1 1), q1, q1, q8, q5, q5, q8, q8, q0, q0, q0, q0, q101, q5, q101, q5] 136), (.row [q101, (.v (.int .i64 (693961))), q101, (.v (.int .i64 (694325)))] 64)]⟩,
  ⟨[q96], [], q105, [(.row [q14, (.sl 15 0 1 1), q1, q1, q8, q5, q5, q8, q8, q0, q0, q0, q0, q101, q5, q101, q5] 136), (.row [q101, q142, q101, (.v (.int .i64 (3652425000000000365)))] 64)]⟩,
  ⟨[q97], [], q105, [(.row [(.v (.int .u8 (5))), q15, q1, q1, q8, q5, q5, q8, q8, q0, q0, q0, q0, q101, q142, (.v (.int .i8 (1))), q5] 136)]⟩,
  ⟨[q149], [], q105, [(.row [q14, (.sl 15 0 1 1), q1, q1, q8, q5, q5, q8, q8, q0, q0, q0, q0, q101, q5, q101, q5] 136), (.row [q101, q106, q101, q107] 64)]⟩,
  ⟨[q155], [], q105, [(.row [q14, (.sl 15 0 1 1), q1, q1, q8, q5, q5, q8, q8, q0, q0, q0, q0, q101, q5, q101, q5] 136), (.row [q101, q106, q101, q107] 64)]⟩,
  ⟨[q156], [], q105, [(.row [q14, (.sl 15 0 1 1), q1, q1, q8, q5, q5, q8, q8, q0, q0, q0, q0, q101, q5, q101, q5] 136), (.row [q104, q5, q101, q107] 64)]⟩,
  ⟨[q157], [], q105, [(.row [q14, (.sl 15 0 1 1), q1, q1, q8, q5, q5, q8, q8, q0, q0, q0, q0, q101, q5, q101, q5] 136), (.row [q101, q106, (.v (.int .i8 (1))), q5] 64)]⟩,
  ⟨[q160], [], q105, [(.row [q14, (.sl 15 0 1 1), q1, q1, q8, q5, q5, q8, q8, q0, q0, q0, q0, q101, q5, q101, q5] 136), (.row [q101, q106, q101, (.v (.int .i64 (732676)))] 64)]⟩,
  ⟨[q163], [], q105, [(.row [q14, (.sl 15 0 1 1), q1, q1, q8, q5, q5, q8, q8, q0, q0, q0, q0, q101, q5, q101, q5] 136), (.row [q101, (.v (.int .i64 (732312))), q101, (.v (.int .i64 (732676)))] 64)]⟩,
  ⟨[q164], [(.rowU [q1, q1, q17, q5, q5, q8, q8, q0, q0, q0, q1, q1, q1, q8, q5, q5, q8, q8, q0, q0, q0] 21 100)], q111, [(.row [q14, (.sl 16 0 1 1), q1, q1, q8, q5, q5, q8, q8, q0, q0, q0, q0, q101, q5, q101, q5] 136), (.row [q101, q106, q101, q107] 64)]⟩]
theorem esEnO5a2_made : madeE tbu (callM tbu msEnO5 100) hp 68 esEnO5a2 = true := by kernel_rfl
theorem esEnO5a2_ok {w0 : World} (hl : laidMet Tryz.prog Rows.ordersKnownRow.laid w0) : EsOk tbu w0 hp 68 esEnO5a2 := madeE_ok (tbu_ok w0) (msEnO5_ok hl) (startOk hl lay_ok hp_eq) esEnO5a2_made
/-- circa/extents.family: 516 operations. -/
noncomputable def esEnO5a3 : List Entry := [⟨[q132], [], q135, []⟩]
theorem esEnO5a3_made : madeE tbu (callM tbu msEnO5 100) hp 70 esEnO5a3 = true := by kernel_rfl
theorem esEnO5a3_ok {w0 : World} (hl : laidMet Tryz.prog Rows.ordersKnownRow.laid w0) : EsOk tbu w0 hp 70 esEnO5a3 := madeE_ok (tbu_ok w0) (msEnO5_ok hl) (startOk hl lay_ok hp_eq) esEnO5a3_made
/-- circa/families.date: 321 operations. -/
noncomputable def esEnO5a4 : List Entry := [⟨[q69], [], q103, [(.row [q101, q5, q101, q41] 64)]⟩,
  ⟨[q150], [], q103, [(.row [q101, q106, q101, (.v (.int .i64 (731976)))] 64)]⟩,
  ⟨[q166], [], q103, [(.row [q101, (.v (.int .i64 (731915))), q101, (.v (.int .i64 (731945)))] 64)]⟩]
theorem esEnO5a4_made : madeE tbu (callM tbu msEnO5 100) hp 116 esEnO5a4 = true := by kernel_rfl
theorem esEnO5a4_ok {w0 : World} (hl : laidMet Tryz.prog Rows.ordersKnownRow.laid w0) : EsOk tbu w0 hp 116 esEnO5a4 := madeE_ok (tbu_ok w0) (msEnO5_ok hl) (startOk hl lay_ok hp_eq) esEnO5a4_made
end Ev
end Go.Proofs.YtojihkdonkblaaaGreatDoor

