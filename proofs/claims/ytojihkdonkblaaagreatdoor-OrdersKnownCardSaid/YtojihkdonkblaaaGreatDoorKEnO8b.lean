/- Calls that were reckoned, level 8 (printed by genents.py). -/
import Derived.Test.YtojihkdonkblaaaGreatDoorKEnOT8
/-! Calls that were reckoned, level 8 (printed by genents.py). -/
set_option linter.unusedVariables false
set_option maxRecDepth 1000000
namespace Go.Proofs.YtojihkdonkblaaaGreatDoor
open Go.RowKit
namespace Ev
/-- circa/orders.Compare: 24303 operations. -/
noncomputable def esEnO8b0 : List Entry := [⟨[q57, q97], [], q99, []⟩,
  ⟨[q60, q16], [], q145, []⟩,
  ⟨[q60, q20], [], q145, []⟩,
  ⟨[q60, q21], [(.rowU [q1, q1, q17, q5, q5, q8, q8, q0, q0, q0, q1, q1, q1, q8, q5, q5, q8, q8, q0, q0, q0] 21 100)], q145, []⟩,
  ⟨[q60, q25], [(.rowU [q1, q1, q17, q5, q5, q8, q8, q0, q0, q0, q1, q1, q1, q8, q5, q5, q8, q8, q0, q0, q0, q1, q1, q23, q5, q5, q8, q8, q0, q0, q0, q1, q1, q1, q8, q5, q5, q8, q8, q0, q0, q0] 21 100)], q145, []⟩,
  ⟨[q60, q54], [], q145, []⟩,
  ⟨[q60, q57], [], q145, []⟩,
  ⟨[q60, q74], [], q99, []⟩,
  ⟨[q60, q80], [], q99, []⟩,
  ⟨[q60, q83], [], q99, []⟩,
  ⟨[q60, q86], [], q99, []⟩,
  ⟨[q60, q96], [], q99, []⟩,
  ⟨[q60, q97], [], q99, []⟩,
  ⟨[q74, q16], [], q145, []⟩,
  ⟨[q74, q20], [], q145, []⟩,
  ⟨[q74, q21], [(.rowU [q1, q1, q17, q5, q5, q8, q8, q0, q0, q0, q1, q1, q1, q8, q5, q5, q8, q8, q0, q0, q0] 21 100)], q145, []⟩,
  ⟨[q74, q25], [(.rowU [q1, q1, q17, q5, q5, q8, q8, q0, q0, q0, q1, q1, q1, q8, q5, q5, q8, q8, q0, q0, q0, q1, q1, q23, q5, q5, q8, q8, q0, q0, q0, q1, q1, q1, q8, q5, q5, q8, q8, q0, q0, q0] 21 100)], q145, []⟩,
  ⟨[q74, q54], [], q145, []⟩,
  ⟨[q74, q57], [], q145, []⟩,
  ⟨[q74, q60], [], q145, []⟩,
  ⟨[q74, q74], [], q64, []⟩,
  ⟨[q74, q76], [], q99, []⟩,
  ⟨[q74, q80], [], q99, []⟩,
  ⟨[q74, q82], [], q99, []⟩,
  ⟨[q74, q83], [], q99, []⟩,
  ⟨[q74, q86], [], q99, []⟩]
theorem esEnO8b0_made : madeE tbu (callM tbu msEnO8 100) hp 5 esEnO8b0 = true := by kernel_rfl
theorem esEnO8b0_ok {w0 : World} (hl : laidMet Tryz.prog Rows.ordersKnownRow.laid w0) : EsOk tbu w0 hp 5 esEnO8b0 := madeE_ok (tbu_ok w0) (msEnO8_ok hl) (startOk hl lay_ok hp_eq) esEnO8b0_made
/-- circa/orders.Compare: 23526 operations. -/
noncomputable def esEnO8b1 : List Entry := [⟨[q74, q96], [], q99, []⟩,
  ⟨[q74, q97], [], q99, []⟩,
  ⟨[q76, q16], [], q145, []⟩,
  ⟨[q76, q20], [], q145, []⟩,
  ⟨[q76, q21], [(.rowU [q1, q1, q17, q5, q5, q8, q8, q0, q0, q0, q1, q1, q1, q8, q5, q5, q8, q8, q0, q0, q0] 21 100)], q145, []⟩,
  ⟨[q76, q25], [(.rowU [q1, q1, q17, q5, q5, q8, q8, q0, q0, q0, q1, q1, q1, q8, q5, q5, q8, q8, q0, q0, q0, q1, q1, q23, q5, q5, q8, q8, q0, q0, q0, q1, q1, q1, q8, q5, q5, q8, q8, q0, q0, q0] 21 100)], q145, []⟩,
  ⟨[q76, q54], [], q145, []⟩,
  ⟨[q76, q57], [], q145, []⟩,
  ⟨[q76, q74], [], q145, []⟩,
  ⟨[q76, q80], [], q99, []⟩,
  ⟨[q76, q83], [], q99, []⟩,
  ⟨[q76, q86], [], q99, []⟩,
  ⟨[q76, q96], [], q99, []⟩,
  ⟨[q76, q97], [], q99, []⟩,
  ⟨[q80, q16], [], q145, []⟩,
  ⟨[q80, q20], [], q145, []⟩,
  ⟨[q80, q21], [(.rowU [q1, q1, q17, q5, q5, q8, q8, q0, q0, q0, q1, q1, q1, q8, q5, q5, q8, q8, q0, q0, q0] 21 100)], q145, []⟩,
  ⟨[q80, q25], [(.rowU [q1, q1, q17, q5, q5, q8, q8, q0, q0, q0, q1, q1, q1, q8, q5, q5, q8, q8, q0, q0, q0, q1, q1, q23, q5, q5, q8, q8, q0, q0, q0, q1, q1, q1, q8, q5, q5, q8, q8, q0, q0, q0] 21 100)], q145, []⟩,
  ⟨[q80, q54], [], q145, []⟩,
  ⟨[q80, q57], [], q145, []⟩,
  ⟨[q80, q60], [], q145, []⟩,
  ⟨[q80, q74], [], q145, []⟩,
  ⟨[q80, q76], [], q145, []⟩,
  ⟨[q80, q80], [], q64, []⟩]
theorem esEnO8b1_made : madeE tbu (callM tbu msEnO8 100) hp 5 esEnO8b1 = true := by kernel_rfl
theorem esEnO8b1_ok {w0 : World} (hl : laidMet Tryz.prog Rows.ordersKnownRow.laid w0) : EsOk tbu w0 hp 5 esEnO8b1 := madeE_ok (tbu_ok w0) (msEnO8_ok hl) (startOk hl lay_ok hp_eq) esEnO8b1_made
/-- circa/orders.Compare: 24141 operations. -/
noncomputable def esEnO8b2 : List Entry := [⟨[q80, q82], [], q99, []⟩,
  ⟨[q80, q83], [], q99, []⟩,
  ⟨[q80, q86], [], q99, []⟩,
  ⟨[q80, q96], [], q99, []⟩,
  ⟨[q80, q97], [], q99, []⟩,
  ⟨[q82, q16], [], q145, []⟩,
  ⟨[q82, q20], [], q145, []⟩,
  ⟨[q82, q21], [(.rowU [q1, q1, q17, q5, q5, q8, q8, q0, q0, q0, q1, q1, q1, q8, q5, q5, q8, q8, q0, q0, q0] 21 100)], q145, []⟩,
  ⟨[q82, q25], [(.rowU [q1, q1, q17, q5, q5, q8, q8, q0, q0, q0, q1, q1, q1, q8, q5, q5, q8, q8, q0, q0, q0, q1, q1, q23, q5, q5, q8, q8, q0, q0, q0, q1, q1, q1, q8, q5, q5, q8, q8, q0, q0, q0] 21 100)], q145, []⟩,
  ⟨[q82, q54], [], q145, []⟩,
  ⟨[q82, q57], [], q145, []⟩,
  ⟨[q82, q74], [], q145, []⟩,
  ⟨[q82, q80], [], q145, []⟩,
  ⟨[q82, q83], [], q99, []⟩,
  ⟨[q82, q86], [], q99, []⟩,
  ⟨[q82, q96], [], q99, []⟩,
  ⟨[q82, q97], [], q99, []⟩,
  ⟨[q83, q16], [], q145, []⟩,
  ⟨[q83, q20], [], q145, []⟩,
  ⟨[q83, q21], [(.rowU [q1, q1, q17, q5, q5, q8, q8, q0, q0, q0, q1, q1, q1, q8, q5, q5, q8, q8, q0, q0, q0] 21 100)], q145, []⟩,
  ⟨[q83, q25], [(.rowU [q1, q1, q17, q5, q5, q8, q8, q0, q0, q0, q1, q1, q1, q8, q5, q5, q8, q8, q0, q0, q0, q1, q1, q23, q5, q5, q8, q8, q0, q0, q0, q1, q1, q1, q8, q5, q5, q8, q8, q0, q0, q0] 21 100)], q145, []⟩,
  ⟨[q83, q54], [], q145, []⟩,
  ⟨[q83, q57], [], q145, []⟩,
  ⟨[q83, q60], [], q145, []⟩]
theorem esEnO8b2_made : madeE tbu (callM tbu msEnO8 100) hp 5 esEnO8b2 = true := by kernel_rfl
theorem esEnO8b2_ok {w0 : World} (hl : laidMet Tryz.prog Rows.ordersKnownRow.laid w0) : EsOk tbu w0 hp 5 esEnO8b2 := madeE_ok (tbu_ok w0) (msEnO8_ok hl) (startOk hl lay_ok hp_eq) esEnO8b2_made
end Ev
end Go.Proofs.YtojihkdonkblaaaGreatDoor

