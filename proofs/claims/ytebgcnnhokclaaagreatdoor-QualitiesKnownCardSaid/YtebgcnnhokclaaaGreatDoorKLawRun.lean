/- The closed law QualitiesKnown, run by the evaluator with the entries at hand. -/
import Derived.Test.YtebgcnnhokclaaaGreatDoorKEnQT9
/-! The closed law QualitiesKnown, run by the evaluator with the entries at hand. -/
set_option linter.unusedVariables false
set_option maxRecDepth 1000000
namespace Go.Proofs.YtebgcnnhokclaaaGreatDoor
open Go.RowKit
namespace Ev
theorem law_run : isTrue (callM tbu msEnQ9 100 tbu.l [] 4 [] ⟨hp, tbu.l⟩) = true := by kernel_rfl
theorem law_any {w0 w : World} (hl : laidMet Tryz.prog Rows.qualitiesKnownRow.laid w0) (hw : Below w0.heap.size w0 w) : Calls Tryz.prog 4 #[] w fun e w' => e = .returned (.bool true) ∧ Below w.heap.size w w' :=
  closedM (tbu_ok w0) (msEnQ9_ok hl) (startOk hl lay_ok hp_eq) hw law_run
end Ev
end Go.Proofs.YtebgcnnhokclaaaGreatDoor

