/- Calls that were reckoned, level 11 (printed by genents.py). -/
import Derived.Test.YtojihkdonkblaaaGreatDoorKEnOT11
/-! Calls that were reckoned, level 11 (printed by genents.py). -/
set_option linter.unusedVariables false
set_option maxRecDepth 1000000
namespace Go.Proofs.YtojihkdonkblaaaGreatDoor
open Go.RowKit
namespace Ev
/-- circa/orders.Compare: 24894 operations. -/
noncomputable def esEnO11a0 : List Entry := [⟨[q16, q50], [(.rowU [q1, q1, q17, q5, q5, q27, q27, q0, q0, q0, q1, q1, q1, q8, q5, q5, q8, q8, q0, q0, q0, q1, q1, q48, q5, q5, q8, q8, q0, q0, q0, q1, q1, q1, q8, q5, q5, q8, q8, q0, q0, q0] 21 100)], q99, []⟩,
  ⟨[q16, q68], [], q99, []⟩,
  ⟨[q16, q93], [], q99, []⟩,
  ⟨[q20, q50], [(.rowU [q1, q1, q17, q5, q5, q27, q27, q0, q0, q0, q1, q1, q1, q8, q5, q5, q8, q8, q0, q0, q0, q1, q1, q48, q5, q5, q8, q8, q0, q0, q0, q1, q1, q1, q8, q5, q5, q8, q8, q0, q0, q0] 21 100)], q99, []⟩,
  ⟨[q20, q68], [], q99, []⟩,
  ⟨[q20, q93], [], q99, []⟩,
  ⟨[q21, q147], [(.rowU [q1, q1, q17, q5, q5, q8, q8, q0, q0, q0, q1, q1, q1, q8, q5, q5, q8, q8, q0, q0, q0] 21 100), (.rowU [q1, q1, q17, q5, q5, q27, q27, q0, q0, q0, q1, q1, q1, q8, q5, q5, q8, q8, q0, q0, q0, q1, q1, q48, q5, q5, q8, q8, q0, q0, q0, q1, q1, q1, q8, q5, q5, q8, q8, q0, q0, q0] 21 100)], q99, []⟩,
  ⟨[q21, q68], [(.rowU [q1, q1, q17, q5, q5, q8, q8, q0, q0, q0, q1, q1, q1, q8, q5, q5, q8, q8, q0, q0, q0] 21 100)], q99, []⟩,
  ⟨[q21, q93], [(.rowU [q1, q1, q17, q5, q5, q8, q8, q0, q0, q0, q1, q1, q1, q8, q5, q5, q8, q8, q0, q0, q0] 21 100)], q99, []⟩,
  ⟨[q25, q147], [(.rowU [q1, q1, q17, q5, q5, q8, q8, q0, q0, q0, q1, q1, q1, q8, q5, q5, q8, q8, q0, q0, q0, q1, q1, q23, q5, q5, q8, q8, q0, q0, q0, q1, q1, q1, q8, q5, q5, q8, q8, q0, q0, q0] 21 100), (.rowU [q1, q1, q17, q5, q5, q27, q27, q0, q0, q0, q1, q1, q1, q8, q5, q5, q8, q8, q0, q0, q0, q1, q1, q48, q5, q5, q8, q8, q0, q0, q0, q1, q1, q1, q8, q5, q5, q8, q8, q0, q0, q0] 21 100)], q99, []⟩,
  ⟨[q25, q68], [(.rowU [q1, q1, q17, q5, q5, q8, q8, q0, q0, q0, q1, q1, q1, q8, q5, q5, q8, q8, q0, q0, q0, q1, q1, q23, q5, q5, q8, q8, q0, q0, q0, q1, q1, q1, q8, q5, q5, q8, q8, q0, q0, q0] 21 100)], q99, []⟩,
  ⟨[q25, q93], [(.rowU [q1, q1, q17, q5, q5, q8, q8, q0, q0, q0, q1, q1, q1, q8, q5, q5, q8, q8, q0, q0, q0, q1, q1, q23, q5, q5, q8, q8, q0, q0, q0, q1, q1, q1, q8, q5, q5, q8, q8, q0, q0, q0] 21 100)], q99, []⟩,
  ⟨[q50, q16], [(.rowU [q1, q1, q17, q5, q5, q27, q27, q0, q0, q0, q1, q1, q1, q8, q5, q5, q8, q8, q0, q0, q0, q1, q1, q48, q5, q5, q8, q8, q0, q0, q0, q1, q1, q1, q8, q5, q5, q8, q8, q0, q0, q0] 21 100)], q145, []⟩,
  ⟨[q50, q20], [(.rowU [q1, q1, q17, q5, q5, q27, q27, q0, q0, q0, q1, q1, q1, q8, q5, q5, q8, q8, q0, q0, q0, q1, q1, q48, q5, q5, q8, q8, q0, q0, q0, q1, q1, q1, q8, q5, q5, q8, q8, q0, q0, q0] 21 100)], q145, []⟩,
  ⟨[q50, q148], [(.rowU [q1, q1, q17, q5, q5, q27, q27, q0, q0, q0, q1, q1, q1, q8, q5, q5, q8, q8, q0, q0, q0, q1, q1, q48, q5, q5, q8, q8, q0, q0, q0, q1, q1, q1, q8, q5, q5, q8, q8, q0, q0, q0] 21 100), (.rowU [q1, q1, q17, q5, q5, q8, q8, q0, q0, q0, q1, q1, q1, q8, q5, q5, q8, q8, q0, q0, q0] 21 100)], q145, []⟩,
  ⟨[q50, q146], [(.rowU [q1, q1, q17, q5, q5, q27, q27, q0, q0, q0, q1, q1, q1, q8, q5, q5, q8, q8, q0, q0, q0, q1, q1, q48, q5, q5, q8, q8, q0, q0, q0, q1, q1, q1, q8, q5, q5, q8, q8, q0, q0, q0] 21 100), (.rowU [q1, q1, q17, q5, q5, q8, q8, q0, q0, q0, q1, q1, q1, q8, q5, q5, q8, q8, q0, q0, q0, q1, q1, q23, q5, q5, q8, q8, q0, q0, q0, q1, q1, q1, q8, q5, q5, q8, q8, q0, q0, q0] 21 100)], q145, []⟩,
  ⟨[q50, q50], [(.rowU [q1, q1, q17, q5, q5, q27, q27, q0, q0, q0, q1, q1, q1, q8, q5, q5, q8, q8, q0, q0, q0, q1, q1, q48, q5, q5, q8, q8, q0, q0, q0, q1, q1, q1, q8, q5, q5, q8, q8, q0, q0, q0] 21 100)], q64, []⟩,
  ⟨[q50, q54], [(.rowU [q1, q1, q17, q5, q5, q27, q27, q0, q0, q0, q1, q1, q1, q8, q5, q5, q8, q8, q0, q0, q0, q1, q1, q48, q5, q5, q8, q8, q0, q0, q0, q1, q1, q1, q8, q5, q5, q8, q8, q0, q0, q0] 21 100)], q99, []⟩,
  ⟨[q50, q57], [(.rowU [q1, q1, q17, q5, q5, q27, q27, q0, q0, q0, q1, q1, q1, q8, q5, q5, q8, q8, q0, q0, q0, q1, q1, q48, q5, q5, q8, q8, q0, q0, q0, q1, q1, q1, q8, q5, q5, q8, q8, q0, q0, q0] 21 100)], q99, []⟩,
  ⟨[q50, q60], [(.rowU [q1, q1, q17, q5, q5, q27, q27, q0, q0, q0, q1, q1, q1, q8, q5, q5, q8, q8, q0, q0, q0, q1, q1, q48, q5, q5, q8, q8, q0, q0, q0, q1, q1, q1, q8, q5, q5, q8, q8, q0, q0, q0] 21 100)], q99, []⟩,
  ⟨[q50, q68], [(.rowU [q1, q1, q17, q5, q5, q27, q27, q0, q0, q0, q1, q1, q1, q8, q5, q5, q8, q8, q0, q0, q0, q1, q1, q48, q5, q5, q8, q8, q0, q0, q0, q1, q1, q1, q8, q5, q5, q8, q8, q0, q0, q0] 21 100)], q99, []⟩,
  ⟨[q50, q72], [(.rowU [q1, q1, q17, q5, q5, q27, q27, q0, q0, q0, q1, q1, q1, q8, q5, q5, q8, q8, q0, q0, q0, q1, q1, q48, q5, q5, q8, q8, q0, q0, q0, q1, q1, q1, q8, q5, q5, q8, q8, q0, q0, q0] 21 100)], q99, []⟩,
  ⟨[q50, q74], [(.rowU [q1, q1, q17, q5, q5, q27, q27, q0, q0, q0, q1, q1, q1, q8, q5, q5, q8, q8, q0, q0, q0, q1, q1, q48, q5, q5, q8, q8, q0, q0, q0, q1, q1, q1, q8, q5, q5, q8, q8, q0, q0, q0] 21 100)], q99, []⟩,
  ⟨[q50, q76], [(.rowU [q1, q1, q17, q5, q5, q27, q27, q0, q0, q0, q1, q1, q1, q8, q5, q5, q8, q8, q0, q0, q0, q1, q1, q48, q5, q5, q8, q8, q0, q0, q0, q1, q1, q1, q8, q5, q5, q8, q8, q0, q0, q0] 21 100)], q99, []⟩]
theorem esEnO11a0_made : madeE tbu (callM tbu msEnO11 100) hp 5 esEnO11a0 = true := by kernel_rfl
theorem esEnO11a0_ok {w0 : World} (hl : laidMet Tryz.prog Rows.ordersKnownRow.laid w0) : EsOk tbu w0 hp 5 esEnO11a0 := madeE_ok (tbu_ok w0) (msEnO11_ok hl) (startOk hl lay_ok hp_eq) esEnO11a0_made
/-- circa/orders.Compare: 24648 operations. -/
noncomputable def esEnO11a1 : List Entry := [⟨[q50, q80], [(.rowU [q1, q1, q17, q5, q5, q27, q27, q0, q0, q0, q1, q1, q1, q8, q5, q5, q8, q8, q0, q0, q0, q1, q1, q48, q5, q5, q8, q8, q0, q0, q0, q1, q1, q1, q8, q5, q5, q8, q8, q0, q0, q0] 21 100)], q99, []⟩,
  ⟨[q50, q82], [(.rowU [q1, q1, q17, q5, q5, q27, q27, q0, q0, q0, q1, q1, q1, q8, q5, q5, q8, q8, q0, q0, q0, q1, q1, q48, q5, q5, q8, q8, q0, q0, q0, q1, q1, q1, q8, q5, q5, q8, q8, q0, q0, q0] 21 100)], q99, []⟩,
  ⟨[q50, q83], [(.rowU [q1, q1, q17, q5, q5, q27, q27, q0, q0, q0, q1, q1, q1, q8, q5, q5, q8, q8, q0, q0, q0, q1, q1, q48, q5, q5, q8, q8, q0, q0, q0, q1, q1, q1, q8, q5, q5, q8, q8, q0, q0, q0] 21 100)], q99, []⟩,
  ⟨[q50, q86], [(.rowU [q1, q1, q17, q5, q5, q27, q27, q0, q0, q0, q1, q1, q1, q8, q5, q5, q8, q8, q0, q0, q0, q1, q1, q48, q5, q5, q8, q8, q0, q0, q0, q1, q1, q1, q8, q5, q5, q8, q8, q0, q0, q0] 21 100)], q99, []⟩,
  ⟨[q50, q93], [(.rowU [q1, q1, q17, q5, q5, q27, q27, q0, q0, q0, q1, q1, q1, q8, q5, q5, q8, q8, q0, q0, q0, q1, q1, q48, q5, q5, q8, q8, q0, q0, q0, q1, q1, q1, q8, q5, q5, q8, q8, q0, q0, q0] 21 100)], q99, []⟩,
  ⟨[q50, q96], [(.rowU [q1, q1, q17, q5, q5, q27, q27, q0, q0, q0, q1, q1, q1, q8, q5, q5, q8, q8, q0, q0, q0, q1, q1, q48, q5, q5, q8, q8, q0, q0, q0, q1, q1, q1, q8, q5, q5, q8, q8, q0, q0, q0] 21 100)], q99, []⟩,
  ⟨[q50, q97], [(.rowU [q1, q1, q17, q5, q5, q27, q27, q0, q0, q0, q1, q1, q1, q8, q5, q5, q8, q8, q0, q0, q0, q1, q1, q48, q5, q5, q8, q8, q0, q0, q0, q1, q1, q1, q8, q5, q5, q8, q8, q0, q0, q0] 21 100)], q99, []⟩,
  ⟨[q54, q50], [(.rowU [q1, q1, q17, q5, q5, q27, q27, q0, q0, q0, q1, q1, q1, q8, q5, q5, q8, q8, q0, q0, q0, q1, q1, q48, q5, q5, q8, q8, q0, q0, q0, q1, q1, q1, q8, q5, q5, q8, q8, q0, q0, q0] 21 100)], q145, []⟩,
  ⟨[q54, q68], [], q99, []⟩,
  ⟨[q54, q93], [], q99, []⟩,
  ⟨[q57, q50], [(.rowU [q1, q1, q17, q5, q5, q27, q27, q0, q0, q0, q1, q1, q1, q8, q5, q5, q8, q8, q0, q0, q0, q1, q1, q48, q5, q5, q8, q8, q0, q0, q0, q1, q1, q1, q8, q5, q5, q8, q8, q0, q0, q0] 21 100)], q145, []⟩,
  ⟨[q57, q68], [], q99, []⟩,
  ⟨[q57, q93], [], q99, []⟩,
  ⟨[q60, q50], [(.rowU [q1, q1, q17, q5, q5, q27, q27, q0, q0, q0, q1, q1, q1, q8, q5, q5, q8, q8, q0, q0, q0, q1, q1, q48, q5, q5, q8, q8, q0, q0, q0, q1, q1, q1, q8, q5, q5, q8, q8, q0, q0, q0] 21 100)], q145, []⟩,
  ⟨[q60, q68], [], q99, []⟩,
  ⟨[q60, q93], [], q99, []⟩,
  ⟨[q68, q16], [], q145, []⟩,
  ⟨[q68, q20], [], q145, []⟩,
  ⟨[q68, q21], [(.rowU [q1, q1, q17, q5, q5, q8, q8, q0, q0, q0, q1, q1, q1, q8, q5, q5, q8, q8, q0, q0, q0] 21 100)], q145, []⟩,
  ⟨[q68, q25], [(.rowU [q1, q1, q17, q5, q5, q8, q8, q0, q0, q0, q1, q1, q1, q8, q5, q5, q8, q8, q0, q0, q0, q1, q1, q23, q5, q5, q8, q8, q0, q0, q0, q1, q1, q1, q8, q5, q5, q8, q8, q0, q0, q0] 21 100)], q145, []⟩,
  ⟨[q68, q50], [(.rowU [q1, q1, q17, q5, q5, q27, q27, q0, q0, q0, q1, q1, q1, q8, q5, q5, q8, q8, q0, q0, q0, q1, q1, q48, q5, q5, q8, q8, q0, q0, q0, q1, q1, q1, q8, q5, q5, q8, q8, q0, q0, q0] 21 100)], q145, []⟩,
  ⟨[q68, q54], [], q145, []⟩,
  ⟨[q68, q57], [], q145, []⟩,
  ⟨[q68, q60], [], q145, []⟩,
  ⟨[q68, q68], [], q64, []⟩,
  ⟨[q68, q72], [], q99, []⟩,
  ⟨[q68, q74], [], q99, []⟩,
  ⟨[q68, q76], [], q99, []⟩]
theorem esEnO11a1_made : madeE tbu (callM tbu msEnO11 100) hp 5 esEnO11a1 = true := by kernel_rfl
theorem esEnO11a1_ok {w0 : World} (hl : laidMet Tryz.prog Rows.ordersKnownRow.laid w0) : EsOk tbu w0 hp 5 esEnO11a1 := madeE_ok (tbu_ok w0) (msEnO11_ok hl) (startOk hl lay_ok hp_eq) esEnO11a1_made
/-- circa/orders.Compare: 24888 operations. -/
noncomputable def esEnO11a2 : List Entry := [⟨[q68, q80], [], q99, []⟩,
  ⟨[q68, q82], [], q99, []⟩,
  ⟨[q68, q83], [], q99, []⟩,
  ⟨[q68, q86], [], q99, []⟩,
  ⟨[q68, q93], [], q99, []⟩,
  ⟨[q68, q96], [], q99, []⟩,
  ⟨[q68, q97], [], q99, []⟩,
  ⟨[q72, q50], [(.rowU [q1, q1, q17, q5, q5, q27, q27, q0, q0, q0, q1, q1, q1, q8, q5, q5, q8, q8, q0, q0, q0, q1, q1, q48, q5, q5, q8, q8, q0, q0, q0, q1, q1, q1, q8, q5, q5, q8, q8, q0, q0, q0] 21 100)], q145, []⟩,
  ⟨[q72, q68], [], q145, []⟩,
  ⟨[q72, q93], [], q99, []⟩,
  ⟨[q74, q50], [(.rowU [q1, q1, q17, q5, q5, q27, q27, q0, q0, q0, q1, q1, q1, q8, q5, q5, q8, q8, q0, q0, q0, q1, q1, q48, q5, q5, q8, q8, q0, q0, q0, q1, q1, q1, q8, q5, q5, q8, q8, q0, q0, q0] 21 100)], q145, []⟩,
  ⟨[q74, q68], [], q145, []⟩,
  ⟨[q74, q93], [], q99, []⟩,
  ⟨[q76, q50], [(.rowU [q1, q1, q17, q5, q5, q27, q27, q0, q0, q0, q1, q1, q1, q8, q5, q5, q8, q8, q0, q0, q0, q1, q1, q48, q5, q5, q8, q8, q0, q0, q0, q1, q1, q1, q8, q5, q5, q8, q8, q0, q0, q0] 21 100)], q145, []⟩,
  ⟨[q76, q68], [], q145, []⟩,
  ⟨[q76, q93], [], q99, []⟩,
  ⟨[q80, q50], [(.rowU [q1, q1, q17, q5, q5, q27, q27, q0, q0, q0, q1, q1, q1, q8, q5, q5, q8, q8, q0, q0, q0, q1, q1, q48, q5, q5, q8, q8, q0, q0, q0, q1, q1, q1, q8, q5, q5, q8, q8, q0, q0, q0] 21 100)], q145, []⟩,
  ⟨[q80, q68], [], q145, []⟩,
  ⟨[q80, q93], [], q99, []⟩,
  ⟨[q82, q50], [(.rowU [q1, q1, q17, q5, q5, q27, q27, q0, q0, q0, q1, q1, q1, q8, q5, q5, q8, q8, q0, q0, q0, q1, q1, q48, q5, q5, q8, q8, q0, q0, q0, q1, q1, q1, q8, q5, q5, q8, q8, q0, q0, q0] 21 100)], q145, []⟩,
  ⟨[q82, q68], [], q145, []⟩,
  ⟨[q82, q93], [], q99, []⟩]
theorem esEnO11a2_made : madeE tbu (callM tbu msEnO11 100) hp 5 esEnO11a2 = true := by kernel_rfl
theorem esEnO11a2_ok {w0 : World} (hl : laidMet Tryz.prog Rows.ordersKnownRow.laid w0) : EsOk tbu w0 hp 5 esEnO11a2 := madeE_ok (tbu_ok w0) (msEnO11_ok hl) (startOk hl lay_ok hp_eq) esEnO11a2_made
end Ev
end Go.Proofs.YtojihkdonkblaaaGreatDoor

