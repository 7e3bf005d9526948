/- Calls that were reckoned, level 8 (printed by genents.py). -/
import Derived.Test.YtojihkdonkblaaaGreatDoorKEnOT8
/-! Calls that were reckoned, level 8 (printed by genents.py). -/
set_option linter.unusedVariables false
set_option maxRecDepth 1000000
namespace Go.Proofs.YtojihkdonkblaaaGreatDoor
open Go.RowKit
namespace Ev
/-- circa/orders.Compare: 24390 operations. -/
noncomputable def esEnO8c0 : List Entry := [⟨[q83, q74], [], q145, []⟩,
  ⟨[q83, q76], [], q145, []⟩,
  ⟨[q83, q80], [], q145, []⟩,
  ⟨[q83, q82], [], q145, []⟩,
  ⟨[q83, q83], [], q64, []⟩,
  ⟨[q83, q86], [], q99, []⟩,
  ⟨[q83, q96], [], q99, []⟩,
  ⟨[q83, q97], [], q99, []⟩,
  ⟨[q86, q16], [], q145, []⟩,
  ⟨[q86, q20], [], q145, []⟩,
  ⟨[q86, q21], [(.rowU [q1, q1, q17, q5, q5, q8, q8, q0, q0, q0, q1, q1, q1, q8, q5, q5, q8, q8, q0, q0, q0] 21 100)], q145, []⟩,
  ⟨[q86, q25], [(.rowU [q1, q1, q17, q5, q5, q8, q8, q0, q0, q0, q1, q1, q1, q8, q5, q5, q8, q8, q0, q0, q0, q1, q1, q23, q5, q5, q8, q8, q0, q0, q0, q1, q1, q1, q8, q5, q5, q8, q8, q0, q0, q0] 21 100)], q145, []⟩,
  ⟨[q86, q54], [], q145, []⟩,
  ⟨[q86, q57], [], q145, []⟩,
  ⟨[q86, q60], [], q145, []⟩,
  ⟨[q86, q74], [], q145, []⟩,
  ⟨[q86, q76], [], q145, []⟩,
  ⟨[q86, q80], [], q145, []⟩,
  ⟨[q86, q82], [], q145, []⟩,
  ⟨[q86, q83], [], q145, []⟩,
  ⟨[q86, q86], [], q64, []⟩,
  ⟨[q86, q96], [], q99, []⟩,
  ⟨[q86, q97], [], q99, []⟩,
  ⟨[q96, q16], [], q145, []⟩,
  ⟨[q96, q20], [], q145, []⟩,
  ⟨[q96, q21], [(.rowU [q1, q1, q17, q5, q5, q8, q8, q0, q0, q0, q1, q1, q1, q8, q5, q5, q8, q8, q0, q0, q0] 21 100)], q145, []⟩,
  ⟨[q96, q25], [(.rowU [q1, q1, q17, q5, q5, q8, q8, q0, q0, q0, q1, q1, q1, q8, q5, q5, q8, q8, q0, q0, q0, q1, q1, q23, q5, q5, q8, q8, q0, q0, q0, q1, q1, q1, q8, q5, q5, q8, q8, q0, q0, q0] 21 100)], q145, []⟩]
theorem esEnO8c0_made : madeE tbu (callM tbu msEnO8 100) hp 5 esEnO8c0 = true := by kernel_rfl
theorem esEnO8c0_ok {w0 : World} (hl : laidMet Tryz.prog Rows.ordersKnownRow.laid w0) : EsOk tbu w0 hp 5 esEnO8c0 := madeE_ok (tbu_ok w0) (msEnO8_ok hl) (startOk hl lay_ok hp_eq) esEnO8c0_made
/-- circa/orders.Compare: 24477 operations. -/
noncomputable def esEnO8c1 : List Entry := [⟨[q96, q54], [], q145, []⟩,
  ⟨[q96, q57], [], q145, []⟩,
  ⟨[q96, q60], [], q145, []⟩,
  ⟨[q96, q74], [], q145, []⟩,
  ⟨[q96, q76], [], q145, []⟩,
  ⟨[q96, q80], [], q145, []⟩,
  ⟨[q96, q82], [], q145, []⟩,
  ⟨[q96, q83], [], q145, []⟩,
  ⟨[q96, q86], [], q145, []⟩,
  ⟨[q96, q96], [], q64, []⟩,
  ⟨[q96, q97], [], q99, []⟩,
  ⟨[q97, q16], [], q145, []⟩,
  ⟨[q97, q20], [], q145, []⟩,
  ⟨[q97, q21], [(.rowU [q1, q1, q17, q5, q5, q8, q8, q0, q0, q0, q1, q1, q1, q8, q5, q5, q8, q8, q0, q0, q0] 21 100)], q145, []⟩,
  ⟨[q97, q25], [(.rowU [q1, q1, q17, q5, q5, q8, q8, q0, q0, q0, q1, q1, q1, q8, q5, q5, q8, q8, q0, q0, q0, q1, q1, q23, q5, q5, q8, q8, q0, q0, q0, q1, q1, q1, q8, q5, q5, q8, q8, q0, q0, q0] 21 100)], q145, []⟩,
  ⟨[q97, q54], [], q145, []⟩,
  ⟨[q97, q57], [], q145, []⟩,
  ⟨[q97, q60], [], q145, []⟩,
  ⟨[q97, q74], [], q145, []⟩,
  ⟨[q97, q76], [], q145, []⟩,
  ⟨[q97, q80], [], q145, []⟩,
  ⟨[q97, q82], [], q145, []⟩,
  ⟨[q97, q83], [], q145, []⟩,
  ⟨[q97, q86], [], q145, []⟩,
  ⟨[q97, q96], [], q145, []⟩,
  ⟨[q97, q97], [], q64, []⟩,
  ⟨[q155, q149], [], q64, []⟩,
  ⟨[q156, q20], [], q64, []⟩,
  ⟨[q157, q160], [], q145, []⟩]
theorem esEnO8c1_made : madeE tbu (callM tbu msEnO8 100) hp 5 esEnO8c1 = true := by kernel_rfl
theorem esEnO8c1_ok {w0 : World} (hl : laidMet Tryz.prog Rows.ordersKnownRow.laid w0) : EsOk tbu w0 hp 5 esEnO8c1 := madeE_ok (tbu_ok w0) (msEnO8_ok hl) (startOk hl lay_ok hp_eq) esEnO8c1_made
/-- circa/orders.of: 150 operations. -/
noncomputable def esEnO8c2 : List Entry := [⟨[q72], [], q125, []⟩,
  ⟨[q152], [], (.tup [q153, q5]), []⟩,
  ⟨[q168], [], (.tup [q170, q5]), []⟩]
theorem esEnO8c2_made : madeE tbu (callM tbu msEnO8 100) hp 26 esEnO8c2 = true := by kernel_rfl
theorem esEnO8c2_ok {w0 : World} (hl : laidMet Tryz.prog Rows.ordersKnownRow.laid w0) : EsOk tbu w0 hp 26 esEnO8c2 := madeE_ok (tbu_ok w0) (msEnO8_ok hl) (startOk hl lay_ok hp_eq) esEnO8c2_made
/-- circa/families.Of: 8780 operations. -/
noncomputable def esEnO8c3 : List Entry := [⟨[q50], [(.rowU [q1, q1, q17, q5, q5, q27, q27, q0, q0, q0, q1, q1, q1, q8, q5, q5, q8, q8, q0, q0, q0, q1, q1, q48, q5, q5, q8, q8, q0, q0, q0, q1, q1, q1, q8, q5, q5, q8, q8, q0, q0, q0] 21 100)], q111, [(.row [q14, (.sl 16 0 2 2), q1, q1, q8, q5, q5, q8, q8, q0, q0, q0, q0, q101, q5, q101, q5] 136), (.rowU [q104, q5, q101, q106, q101, (.v (.int .i64 (733042))), q101, (.v (.int .i64 (733406)))] 4 64)]⟩,
  ⟨[q68], [], q105, [(.row [q14, (.sl 15 0 1 1), q1, q1, q8, q5, q5, q8, q8, q0, q0, q0, q0, q101, q5, q101, q5] 136), (.row [q101, q5, q101, q5] 64)]⟩,
  ⟨[q93], [], q105, [(.row [q14, (.sl 15 0 1 1), q1, q1, q8, q5, q5, q8, q8, q0, q0, q0, q0, q101, q5, q101, q5] 136), (.row [q101, (.v (.int .i64 (694019))), q101, (.v (.int .i64 (694019)))] 64)]⟩]
theorem esEnO8c3_made : madeE tbu (callM tbu msEnO8 100) hp 68 esEnO8c3 = true := by kernel_rfl
theorem esEnO8c3_ok {w0 : World} (hl : laidMet Tryz.prog Rows.ordersKnownRow.laid w0) : EsOk tbu w0 hp 68 esEnO8c3 := madeE_ok (tbu_ok w0) (msEnO8_ok hl) (startOk hl lay_ok hp_eq) esEnO8c3_made
end Ev
end Go.Proofs.YtojihkdonkblaaaGreatDoor

