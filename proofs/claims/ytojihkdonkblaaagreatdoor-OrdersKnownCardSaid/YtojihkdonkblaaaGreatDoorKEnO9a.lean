/- Calls that were reckoned, level 9 (printed by genents.py). -/
import Derived.Test.YtojihkdonkblaaaGreatDoorKEnOT9
/-! Calls that were reckoned, level 9 (printed by genents.py). -/
set_option linter.unusedVariables false
set_option maxRecDepth 1000000
namespace Go.Proofs.YtojihkdonkblaaaGreatDoor
open Go.RowKit
namespace Ev
/-- circa/orders.Compare: 24072 operations. -/
noncomputable def esEnO9a0 : List Entry := [⟨[q16, q72], [], q99, []⟩,
  ⟨[q20, q72], [], q99, []⟩,
  ⟨[q21, q72], [(.rowU [q1, q1, q17, q5, q5, q8, q8, q0, q0, q0, q1, q1, q1, q8, q5, q5, q8, q8, q0, q0, q0] 21 100)], q99, []⟩,
  ⟨[q25, q72], [(.rowU [q1, q1, q17, q5, q5, q8, q8, q0, q0, q0, q1, q1, q1, q8, q5, q5, q8, q8, q0, q0, q0, q1, q1, q23, q5, q5, q8, q8, q0, q0, q0, q1, q1, q1, q8, q5, q5, q8, q8, q0, q0, q0] 21 100)], q99, []⟩,
  ⟨[q54, q72], [], q99, []⟩,
  ⟨[q57, q72], [], q99, []⟩,
  ⟨[q60, q72], [], q99, []⟩,
  ⟨[q72, q16], [], q145, []⟩,
  ⟨[q72, q20], [], q145, []⟩,
  ⟨[q72, q21], [(.rowU [q1, q1, q17, q5, q5, q8, q8, q0, q0, q0, q1, q1, q1, q8, q5, q5, q8, q8, q0, q0, q0] 21 100)], q145, []⟩,
  ⟨[q72, q25], [(.rowU [q1, q1, q17, q5, q5, q8, q8, q0, q0, q0, q1, q1, q1, q8, q5, q5, q8, q8, q0, q0, q0, q1, q1, q23, q5, q5, q8, q8, q0, q0, q0, q1, q1, q1, q8, q5, q5, q8, q8, q0, q0, q0] 21 100)], q145, []⟩,
  ⟨[q72, q54], [], q145, []⟩,
  ⟨[q72, q57], [], q145, []⟩,
  ⟨[q72, q60], [], q145, []⟩,
  ⟨[q72, q72], [], q64, []⟩,
  ⟨[q72, q74], [], q99, []⟩,
  ⟨[q72, q76], [], q99, []⟩,
  ⟨[q72, q80], [], q99, []⟩,
  ⟨[q72, q82], [], q99, []⟩,
  ⟨[q72, q83], [], q99, []⟩,
  ⟨[q72, q86], [], q99, []⟩,
  ⟨[q72, q96], [], q99, []⟩,
  ⟨[q72, q97], [], q99, []⟩,
  ⟨[q74, q72], [], q145, []⟩]
theorem esEnO9a0_made : madeE tbu (callM tbu msEnO9 100) hp 5 esEnO9a0 = true := by kernel_rfl
theorem esEnO9a0_ok {w0 : World} (hl : laidMet Tryz.prog Rows.ordersKnownRow.laid w0) : EsOk tbu w0 hp 5 esEnO9a0 := madeE_ok (tbu_ok w0) (msEnO9_ok hl) (startOk hl lay_ok hp_eq) esEnO9a0_made
/-- circa/orders.Compare: 12456 operations. -/
noncomputable def esEnO9a1 : List Entry := [⟨[q76, q72], [], q145, []⟩,
  ⟨[q80, q72], [], q145, []⟩,
  ⟨[q82, q72], [], q145, []⟩,
  ⟨[q83, q72], [], q145, []⟩,
  ⟨[q86, q72], [], q145, []⟩,
  ⟨[q96, q72], [], q145, []⟩,
  ⟨[q97, q72], [], q145, []⟩,
  ⟨[q149, q152], [], q145, []⟩,
  ⟨[q152, q149], [], q99, []⟩]
theorem esEnO9a1_made : madeE tbu (callM tbu msEnO9 100) hp 5 esEnO9a1 = true := by kernel_rfl
theorem esEnO9a1_ok {w0 : World} (hl : laidMet Tryz.prog Rows.ordersKnownRow.laid w0) : EsOk tbu w0 hp 5 esEnO9a1 := madeE_ok (tbu_ok w0) (msEnO9_ok hl) (startOk hl lay_ok hp_eq) esEnO9a1_made
/-- circa/extents.Of: 189 operations. -/
noncomputable def esEnO9a2 : List Entry := [⟨[q50], [(.rowU [q1, q1, q17, q5, q5, q27, q27, q0, q0, q0, q1, q1, q1, q8, q5, q5, q8, q8, q0, q0, q0, q1, q1, q48, q5, q5, q8, q8, q0, q0, q0, q1, q1, q1, q8, q5, q5, q8, q8, q0, q0, q0] 21 100)], (.tup [q114, q5]), []⟩,
  ⟨[q68], [], q124, []⟩,
  ⟨[q93], [], (.tup [q140, q5]), []⟩]
theorem esEnO9a2_made : madeE tbu (callM tbu msEnO9 100) hp 46 esEnO9a2 = true := by kernel_rfl
theorem esEnO9a2_ok {w0 : World} (hl : laidMet Tryz.prog Rows.ordersKnownRow.laid w0) : EsOk tbu w0 hp 46 esEnO9a2 := madeE_ok (tbu_ok w0) (msEnO9_ok hl) (startOk hl lay_ok hp_eq) esEnO9a2_made
end Ev
end Go.Proofs.YtojihkdonkblaaaGreatDoor

