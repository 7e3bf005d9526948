/- Calls that were reckoned, level 11 (printed by genents.py). -/
import Derived.Test.YtojihkdonkblaaaGreatDoorKEnOT11
/-! Calls that were reckoned, level 11 (printed by genents.py). -/
set_option linter.unusedVariables false
set_option maxRecDepth 1000000
namespace Go.Proofs.YtojihkdonkblaaaGreatDoor
open Go.RowKit
namespace Ev
/-- circa/orders.Compare: 24933 operations. -/
noncomputable def esEnO11b0 : List Entry := [⟨[q83, q50], [(.rowU [q1, q1, q17, q5, q5, q27, q27, q0, q0, q0, q1, q1, q1, q8, q5, q5, q8, q8, q0, q0, q0, q1, q1, q48, q5, q5, q8, q8, q0, q0, q0, q1, q1, q1, q8, q5, q5, q8, q8, q0, q0, q0] 21 100)], q145, []⟩,
  ⟨[q83, q68], [], q145, []⟩,
  ⟨[q83, q93], [], q99, []⟩,
  ⟨[q86, q50], [(.rowU [q1, q1, q17, q5, q5, q27, q27, q0, q0, q0, q1, q1, q1, q8, q5, q5, q8, q8, q0, q0, q0, q1, q1, q48, q5, q5, q8, q8, q0, q0, q0, q1, q1, q1, q8, q5, q5, q8, q8, q0, q0, q0] 21 100)], q145, []⟩,
  ⟨[q86, q68], [], q145, []⟩,
  ⟨[q86, q93], [], q99, []⟩,
  ⟨[q93, q16], [], q145, []⟩,
  ⟨[q93, q20], [], q145, []⟩,
  ⟨[q93, q21], [(.rowU [q1, q1, q17, q5, q5, q8, q8, q0, q0, q0, q1, q1, q1, q8, q5, q5, q8, q8, q0, q0, q0] 21 100)], q145, []⟩,
  ⟨[q93, q25], [(.rowU [q1, q1, q17, q5, q5, q8, q8, q0, q0, q0, q1, q1, q1, q8, q5, q5, q8, q8, q0, q0, q0, q1, q1, q23, q5, q5, q8, q8, q0, q0, q0, q1, q1, q1, q8, q5, q5, q8, q8, q0, q0, q0] 21 100)], q145, []⟩,
  ⟨[q93, q50], [(.rowU [q1, q1, q17, q5, q5, q27, q27, q0, q0, q0, q1, q1, q1, q8, q5, q5, q8, q8, q0, q0, q0, q1, q1, q48, q5, q5, q8, q8, q0, q0, q0, q1, q1, q1, q8, q5, q5, q8, q8, q0, q0, q0] 21 100)], q145, []⟩,
  ⟨[q93, q54], [], q145, []⟩,
  ⟨[q93, q57], [], q145, []⟩,
  ⟨[q93, q60], [], q145, []⟩,
  ⟨[q93, q68], [], q145, []⟩,
  ⟨[q93, q72], [], q145, []⟩,
  ⟨[q93, q74], [], q145, []⟩,
  ⟨[q93, q76], [], q145, []⟩,
  ⟨[q93, q80], [], q145, []⟩,
  ⟨[q93, q82], [], q145, []⟩,
  ⟨[q93, q83], [], q145, []⟩,
  ⟨[q93, q86], [], q145, []⟩,
  ⟨[q93, q93], [], q64, []⟩,
  ⟨[q93, q96], [], q99, []⟩,
  ⟨[q93, q97], [], q99, []⟩,
  ⟨[q96, q50], [(.rowU [q1, q1, q17, q5, q5, q27, q27, q0, q0, q0, q1, q1, q1, q8, q5, q5, q8, q8, q0, q0, q0, q1, q1, q48, q5, q5, q8, q8, q0, q0, q0, q1, q1, q1, q8, q5, q5, q8, q8, q0, q0, q0] 21 100)], q145, []⟩,
  ⟨[q96, q68], [], q145, []⟩,
  ⟨[q96, q93], [], q145, []⟩,
  ⟨[q97, q50], [(.rowU [q1, q1, q17, q5, q5, q27, q27, q0, q0, q0, q1, q1, q1, q8, q5, q5, q8, q8, q0, q0, q0, q1, q1, q48, q5, q5, q8, q8, q0, q0, q0, q1, q1, q1, q8, q5, q5, q8, q8, q0, q0, q0] 21 100)], q145, []⟩]
theorem esEnO11b0_made : madeE tbu (callM tbu msEnO11 100) hp 5 esEnO11b0 = true := by kernel_rfl
theorem esEnO11b0_ok {w0 : World} (hl : laidMet Tryz.prog Rows.ordersKnownRow.laid w0) : EsOk tbu w0 hp 5 esEnO11b0 := madeE_ok (tbu_ok w0) (msEnO11_ok hl) (startOk hl lay_ok hp_eq) esEnO11b0_made
/-- circa/orders.Compare: 1782 operations. -/
noncomputable def esEnO11b1 : List Entry := [⟨[q97, q68], [], q145, []⟩,
  ⟨[q97, q93], [], q145, []⟩]
theorem esEnO11b1_made : madeE tbu (callM tbu msEnO11 100) hp 5 esEnO11b1 = true := by kernel_rfl
theorem esEnO11b1_ok {w0 : World} (hl : laidMet Tryz.prog Rows.ordersKnownRow.laid w0) : EsOk tbu w0 hp 5 esEnO11b1 := madeE_ok (tbu_ok w0) (msEnO11_ok hl) (startOk hl lay_ok hp_eq) esEnO11b1_made
end Ev
end Go.Proofs.YtojihkdonkblaaaGreatDoor

