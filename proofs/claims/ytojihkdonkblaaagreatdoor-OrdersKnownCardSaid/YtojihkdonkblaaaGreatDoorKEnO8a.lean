/- Calls that were reckoned, level 8 (printed by genents.py). -/
import Derived.Test.YtojihkdonkblaaaGreatDoorKEnOT8
/-! Calls that were reckoned, level 8 (printed by genents.py). -/
set_option linter.unusedVariables false
set_option maxRecDepth 1000000
namespace Go.Proofs.YtojihkdonkblaaaGreatDoor
open Go.RowKit
namespace Ev
/-- circa/orders.Compare: 24888 operations. -/
noncomputable def esEnO8a0 : List Entry := [⟨[q16, q16], [], q64, []⟩,
  ⟨[q16, q20], [], q99, []⟩,
  ⟨[q16, q21], [(.rowU [q1, q1, q17, q5, q5, q8, q8, q0, q0, q0, q1, q1, q1, q8, q5, q5, q8, q8, q0, q0, q0] 21 100)], q99, []⟩,
  ⟨[q16, q25], [(.rowU [q1, q1, q17, q5, q5, q8, q8, q0, q0, q0, q1, q1, q1, q8, q5, q5, q8, q8, q0, q0, q0, q1, q1, q23, q5, q5, q8, q8, q0, q0, q0, q1, q1, q1, q8, q5, q5, q8, q8, q0, q0, q0] 21 100)], q99, []⟩,
  ⟨[q16, q54], [], q99, []⟩,
  ⟨[q16, q57], [], q99, []⟩,
  ⟨[q16, q60], [], q99, []⟩,
  ⟨[q16, q74], [], q99, []⟩,
  ⟨[q16, q76], [], q99, []⟩,
  ⟨[q16, q80], [], q99, []⟩,
  ⟨[q16, q82], [], q99, []⟩,
  ⟨[q16, q83], [], q99, []⟩,
  ⟨[q16, q86], [], q99, []⟩,
  ⟨[q16, q96], [], q99, []⟩,
  ⟨[q16, q97], [], q99, []⟩,
  ⟨[q20, q16], [], q145, []⟩,
  ⟨[q20, q20], [], q64, []⟩,
  ⟨[q20, q21], [(.rowU [q1, q1, q17, q5, q5, q8, q8, q0, q0, q0, q1, q1, q1, q8, q5, q5, q8, q8, q0, q0, q0] 21 100)], q64, []⟩,
  ⟨[q20, q25], [(.rowU [q1, q1, q17, q5, q5, q8, q8, q0, q0, q0, q1, q1, q1, q8, q5, q5, q8, q8, q0, q0, q0, q1, q1, q23, q5, q5, q8, q8, q0, q0, q0, q1, q1, q1, q8, q5, q5, q8, q8, q0, q0, q0] 21 100)], q99, []⟩,
  ⟨[q20, q54], [], q99, []⟩,
  ⟨[q20, q57], [], q99, []⟩,
  ⟨[q20, q60], [], q99, []⟩,
  ⟨[q20, q74], [], q99, []⟩,
  ⟨[q20, q76], [], q99, []⟩,
  ⟨[q20, q80], [], q99, []⟩,
  ⟨[q20, q82], [], q99, []⟩,
  ⟨[q20, q83], [], q99, []⟩,
  ⟨[q20, q86], [], q99, []⟩,
  ⟨[q20, q96], [], q99, []⟩]
theorem esEnO8a0_made : madeE tbu (callM tbu msEnO8 100) hp 5 esEnO8a0 = true := by kernel_rfl
theorem esEnO8a0_ok {w0 : World} (hl : laidMet Tryz.prog Rows.ordersKnownRow.laid w0) : EsOk tbu w0 hp 5 esEnO8a0 := madeE_ok (tbu_ok w0) (msEnO8_ok hl) (startOk hl lay_ok hp_eq) esEnO8a0_made
/-- circa/orders.Compare: 24969 operations. -/
noncomputable def esEnO8a1 : List Entry := [⟨[q20, q97], [], q99, []⟩,
  ⟨[q21, q16], [(.rowU [q1, q1, q17, q5, q5, q8, q8, q0, q0, q0, q1, q1, q1, q8, q5, q5, q8, q8, q0, q0, q0] 21 100)], q145, []⟩,
  ⟨[q21, q20], [(.rowU [q1, q1, q17, q5, q5, q8, q8, q0, q0, q0, q1, q1, q1, q8, q5, q5, q8, q8, q0, q0, q0] 21 100)], q64, []⟩,
  ⟨[q21, q21], [(.rowU [q1, q1, q17, q5, q5, q8, q8, q0, q0, q0, q1, q1, q1, q8, q5, q5, q8, q8, q0, q0, q0] 21 100)], q64, []⟩,
  ⟨[q21, q146], [(.rowU [q1, q1, q17, q5, q5, q8, q8, q0, q0, q0, q1, q1, q1, q8, q5, q5, q8, q8, q0, q0, q0] 21 100), (.rowU [q1, q1, q17, q5, q5, q8, q8, q0, q0, q0, q1, q1, q1, q8, q5, q5, q8, q8, q0, q0, q0, q1, q1, q23, q5, q5, q8, q8, q0, q0, q0, q1, q1, q1, q8, q5, q5, q8, q8, q0, q0, q0] 21 100)], q99, []⟩,
  ⟨[q21, q54], [(.rowU [q1, q1, q17, q5, q5, q8, q8, q0, q0, q0, q1, q1, q1, q8, q5, q5, q8, q8, q0, q0, q0] 21 100)], q99, []⟩,
  ⟨[q21, q57], [(.rowU [q1, q1, q17, q5, q5, q8, q8, q0, q0, q0, q1, q1, q1, q8, q5, q5, q8, q8, q0, q0, q0] 21 100)], q99, []⟩,
  ⟨[q21, q60], [(.rowU [q1, q1, q17, q5, q5, q8, q8, q0, q0, q0, q1, q1, q1, q8, q5, q5, q8, q8, q0, q0, q0] 21 100)], q99, []⟩,
  ⟨[q21, q74], [(.rowU [q1, q1, q17, q5, q5, q8, q8, q0, q0, q0, q1, q1, q1, q8, q5, q5, q8, q8, q0, q0, q0] 21 100)], q99, []⟩,
  ⟨[q21, q76], [(.rowU [q1, q1, q17, q5, q5, q8, q8, q0, q0, q0, q1, q1, q1, q8, q5, q5, q8, q8, q0, q0, q0] 21 100)], q99, []⟩,
  ⟨[q21, q80], [(.rowU [q1, q1, q17, q5, q5, q8, q8, q0, q0, q0, q1, q1, q1, q8, q5, q5, q8, q8, q0, q0, q0] 21 100)], q99, []⟩,
  ⟨[q21, q82], [(.rowU [q1, q1, q17, q5, q5, q8, q8, q0, q0, q0, q1, q1, q1, q8, q5, q5, q8, q8, q0, q0, q0] 21 100)], q99, []⟩,
  ⟨[q21, q83], [(.rowU [q1, q1, q17, q5, q5, q8, q8, q0, q0, q0, q1, q1, q1, q8, q5, q5, q8, q8, q0, q0, q0] 21 100)], q99, []⟩,
  ⟨[q21, q86], [(.rowU [q1, q1, q17, q5, q5, q8, q8, q0, q0, q0, q1, q1, q1, q8, q5, q5, q8, q8, q0, q0, q0] 21 100)], q99, []⟩,
  ⟨[q21, q96], [(.rowU [q1, q1, q17, q5, q5, q8, q8, q0, q0, q0, q1, q1, q1, q8, q5, q5, q8, q8, q0, q0, q0] 21 100)], q99, []⟩,
  ⟨[q21, q97], [(.rowU [q1, q1, q17, q5, q5, q8, q8, q0, q0, q0, q1, q1, q1, q8, q5, q5, q8, q8, q0, q0, q0] 21 100)], q99, []⟩,
  ⟨[q25, q16], [(.rowU [q1, q1, q17, q5, q5, q8, q8, q0, q0, q0, q1, q1, q1, q8, q5, q5, q8, q8, q0, q0, q0, q1, q1, q23, q5, q5, q8, q8, q0, q0, q0, q1, q1, q1, q8, q5, q5, q8, q8, q0, q0, q0] 21 100)], q145, []⟩,
  ⟨[q25, q20], [(.rowU [q1, q1, q17, q5, q5, q8, q8, q0, q0, q0, q1, q1, q1, q8, q5, q5, q8, q8, q0, q0, q0, q1, q1, q23, q5, q5, q8, q8, q0, q0, q0, q1, q1, q1, q8, q5, q5, q8, q8, q0, q0, q0] 21 100)], q145, []⟩,
  ⟨[q25, q148], [(.rowU [q1, q1, q17, q5, q5, q8, q8, q0, q0, q0, q1, q1, q1, q8, q5, q5, q8, q8, q0, q0, q0, q1, q1, q23, q5, q5, q8, q8, q0, q0, q0, q1, q1, q1, q8, q5, q5, q8, q8, q0, q0, q0] 21 100), (.rowU [q1, q1, q17, q5, q5, q8, q8, q0, q0, q0, q1, q1, q1, q8, q5, q5, q8, q8, q0, q0, q0] 21 100)], q145, []⟩,
  ⟨[q25, q25], [(.rowU [q1, q1, q17, q5, q5, q8, q8, q0, q0, q0, q1, q1, q1, q8, q5, q5, q8, q8, q0, q0, q0, q1, q1, q23, q5, q5, q8, q8, q0, q0, q0, q1, q1, q1, q8, q5, q5, q8, q8, q0, q0, q0] 21 100)], q64, []⟩,
  ⟨[q25, q54], [(.rowU [q1, q1, q17, q5, q5, q8, q8, q0, q0, q0, q1, q1, q1, q8, q5, q5, q8, q8, q0, q0, q0, q1, q1, q23, q5, q5, q8, q8, q0, q0, q0, q1, q1, q1, q8, q5, q5, q8, q8, q0, q0, q0] 21 100)], q99, []⟩,
  ⟨[q25, q57], [(.rowU [q1, q1, q17, q5, q5, q8, q8, q0, q0, q0, q1, q1, q1, q8, q5, q5, q8, q8, q0, q0, q0, q1, q1, q23, q5, q5, q8, q8, q0, q0, q0, q1, q1, q1, q8, q5, q5, q8, q8, q0, q0, q0] 21 100)], q99, []⟩,
  ⟨[q25, q60], [(.rowU [q1, q1, q17, q5, q5, q8, q8, q0, q0, q0, q1, q1, q1, q8, q5, q5, q8, q8, q0, q0, q0, q1, q1, q23, q5, q5, q8, q8, q0, q0, q0, q1, q1, q1, q8, q5, q5, q8, q8, q0, q0, q0] 21 100)], q99, []⟩,
  ⟨[q25, q74], [(.rowU [q1, q1, q17, q5, q5, q8, q8, q0, q0, q0, q1, q1, q1, q8, q5, q5, q8, q8, q0, q0, q0, q1, q1, q23, q5, q5, q8, q8, q0, q0, q0, q1, q1, q1, q8, q5, q5, q8, q8, q0, q0, q0] 21 100)], q99, []⟩,
  ⟨[q25, q76], [(.rowU [q1, q1, q17, q5, q5, q8, q8, q0, q0, q0, q1, q1, q1, q8, q5, q5, q8, q8, q0, q0, q0, q1, q1, q23, q5, q5, q8, q8, q0, q0, q0, q1, q1, q1, q8, q5, q5, q8, q8, q0, q0, q0] 21 100)], q99, []⟩,
  ⟨[q25, q80], [(.rowU [q1, q1, q17, q5, q5, q8, q8, q0, q0, q0, q1, q1, q1, q8, q5, q5, q8, q8, q0, q0, q0, q1, q1, q23, q5, q5, q8, q8, q0, q0, q0, q1, q1, q1, q8, q5, q5, q8, q8, q0, q0, q0] 21 100)], q99, []⟩,
  ⟨[q25, q82], [(.rowU [q1, q1, q17, q5, q5, q8, q8, q0, q0, q0, q1, q1, q1, q8, q5, q5, q8, q8, q0, q0, q0, q1, q1, q23, q5, q5, q8, q8, q0, q0, q0, q1, q1, q1, q8, q5, q5, q8, q8, q0, q0, q0] 21 100)], q99, []⟩,
  ⟨[q25, q83], [(.rowU [q1, q1, q17, q5, q5, q8, q8, q0, q0, q0, q1, q1, q1, q8, q5, q5, q8, q8, q0, q0, q0, q1, q1, q23, q5, q5, q8, q8, q0, q0, q0, q1, q1, q1, q8, q5, q5, q8, q8, q0, q0, q0] 21 100)], q99, []⟩,
  ⟨[q25, q86], [(.rowU [q1, q1, q17, q5, q5, q8, q8, q0, q0, q0, q1, q1, q1, q8, q5, q5, q8, q8, q0, q0, q0, q1, q1, q23, q5, q5, q8, q8, q0, q0, q0, q1, q1, q1, q8, q5, q5, q8, q8, q0, q0, q0] 21 100)], q99, []⟩]
theorem esEnO8a1_made : madeE tbu (callM tbu msEnO8 100) hp 5 esEnO8a1 = true := by kernel_rfl
theorem esEnO8a1_ok {w0 : World} (hl : laidMet Tryz.prog Rows.ordersKnownRow.laid w0) : EsOk tbu w0 hp 5 esEnO8a1 := madeE_ok (tbu_ok w0) (msEnO8_ok hl) (startOk hl lay_ok hp_eq) esEnO8a1_made
/-- circa/orders.Compare: 24501 operations. -/
noncomputable def esEnO8a2 : List Entry := [⟨[q25, q96], [(.rowU [q1, q1, q17, q5, q5, q8, q8, q0, q0, q0, q1, q1, q1, q8, q5, q5, q8, q8, q0, q0, q0, q1, q1, q23, q5, q5, q8, q8, q0, q0, q0, q1, q1, q1, q8, q5, q5, q8, q8, q0, q0, q0] 21 100)], q99, []⟩,
  ⟨[q25, q97], [(.rowU [q1, q1, q17, q5, q5, q8, q8, q0, q0, q0, q1, q1, q1, q8, q5, q5, q8, q8, q0, q0, q0, q1, q1, q23, q5, q5, q8, q8, q0, q0, q0, q1, q1, q1, q8, q5, q5, q8, q8, q0, q0, q0] 21 100)], q99, []⟩,
  ⟨[q54, q16], [], q145, []⟩,
  ⟨[q54, q20], [], q145, []⟩,
  ⟨[q54, q21], [(.rowU [q1, q1, q17, q5, q5, q8, q8, q0, q0, q0, q1, q1, q1, q8, q5, q5, q8, q8, q0, q0, q0] 21 100)], q145, []⟩,
  ⟨[q54, q25], [(.rowU [q1, q1, q17, q5, q5, q8, q8, q0, q0, q0, q1, q1, q1, q8, q5, q5, q8, q8, q0, q0, q0, q1, q1, q23, q5, q5, q8, q8, q0, q0, q0, q1, q1, q1, q8, q5, q5, q8, q8, q0, q0, q0] 21 100)], q145, []⟩,
  ⟨[q54, q54], [], q64, []⟩,
  ⟨[q54, q57], [], q99, []⟩,
  ⟨[q54, q60], [], q99, []⟩,
  ⟨[q54, q74], [], q99, []⟩,
  ⟨[q54, q76], [], q99, []⟩,
  ⟨[q54, q80], [], q99, []⟩,
  ⟨[q54, q82], [], q99, []⟩,
  ⟨[q54, q83], [], q99, []⟩,
  ⟨[q54, q86], [], q99, []⟩,
  ⟨[q54, q96], [], q99, []⟩,
  ⟨[q54, q97], [], q99, []⟩,
  ⟨[q57, q16], [], q145, []⟩,
  ⟨[q57, q20], [], q145, []⟩,
  ⟨[q57, q21], [(.rowU [q1, q1, q17, q5, q5, q8, q8, q0, q0, q0, q1, q1, q1, q8, q5, q5, q8, q8, q0, q0, q0] 21 100)], q145, []⟩,
  ⟨[q57, q25], [(.rowU [q1, q1, q17, q5, q5, q8, q8, q0, q0, q0, q1, q1, q1, q8, q5, q5, q8, q8, q0, q0, q0, q1, q1, q23, q5, q5, q8, q8, q0, q0, q0, q1, q1, q1, q8, q5, q5, q8, q8, q0, q0, q0] 21 100)], q145, []⟩,
  ⟨[q57, q54], [], q145, []⟩,
  ⟨[q57, q57], [], q64, []⟩,
  ⟨[q57, q60], [], q99, []⟩,
  ⟨[q57, q74], [], q99, []⟩,
  ⟨[q57, q76], [], q99, []⟩,
  ⟨[q57, q80], [], q99, []⟩,
  ⟨[q57, q82], [], q99, []⟩,
  ⟨[q57, q83], [], q99, []⟩,
  ⟨[q57, q86], [], q99, []⟩,
  ⟨[q57, q96], [], q99, []⟩]
theorem esEnO8a2_made : madeE tbu (callM tbu msEnO8 100) hp 5 esEnO8a2 = true := by kernel_rfl
theorem esEnO8a2_ok {w0 : World} (hl : laidMet Tryz.prog Rows.ordersKnownRow.laid w0) : EsOk tbu w0 hp 5 esEnO8a2 := madeE_ok (tbu_ok w0) (msEnO8_ok hl) (startOk hl lay_ok hp_eq) esEnO8a2_made
end Ev
end Go.Proofs.YtojihkdonkblaaaGreatDoor

