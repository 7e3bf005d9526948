/- The examples of the chapter: the closed call, run by the evaluator with the entries at hand. -/
import Derived.Test.YtmebmfgmopdieaaGreatDoorKA
/-! The examples of the chapter: the closed call, run by the evaluator with the entries at hand. -/
set_option linter.unusedVariables false
set_option maxRecDepth 1000000
namespace Go.Proofs.YtmebmfgmopdieaaGreatDoor
open Go.RowKit
namespace Ev
theorem lives_run : isTrue (callM tbu msEnA13 100 tbu.l [] 9 [] ⟨hp, tbu.l⟩) = true := by kernel_rfl
theorem lives_any {w0 w : World} (hl : laidMetH Tryz.prog Rows.axesKnownRow.laid w0) (hw : Below w0.heap.size w0 w) : Calls Tryz.prog 9 #[] w fun e w' => e = .returned (.bool true) ∧ Below w.heap.size w w' :=
  closedM (tbu_ok w0) (msEnA13_ok hl) (start_ok hl) hw lives_run
end Ev
end Go.Proofs.YtmebmfgmopdieaaGreatDoor

