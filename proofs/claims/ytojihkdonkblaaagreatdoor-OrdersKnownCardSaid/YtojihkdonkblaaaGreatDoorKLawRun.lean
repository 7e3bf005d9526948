/- The closed law OrdersKnown, run by the evaluator with the entries at hand. -/
import Derived.Test.YtojihkdonkblaaaGreatDoorKEnOT12
/-! The closed law OrdersKnown, run by the evaluator with the entries at hand. -/
set_option linter.unusedVariables false
set_option maxRecDepth 1000000
namespace Go.Proofs.YtojihkdonkblaaaGreatDoor
open Go.RowKit
namespace Ev
theorem law_run : isTrue (callM tbu msEnO12 100 tbu.l [] 3 [] ⟨hp, tbu.l⟩) = true := by kernel_rfl
theorem law_any {w0 w : World} (hl : laidMet Tryz.prog Rows.ordersKnownRow.laid w0) (hw : Below w0.heap.size w0 w) : Calls Tryz.prog 3 #[] w fun e w' => e = .returned (.bool true) ∧ Below w.heap.size w w' :=
  closedM (tbu_ok w0) (msEnO12_ok hl) (startOk hl lay_ok hp_eq) hw law_run
end Ev
end Go.Proofs.YtojihkdonkblaaaGreatDoor

