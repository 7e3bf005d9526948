/- The examples of the chapter: the closed call, run by the evaluator with the entries at hand. -/
import Derived.Test.YtlglepkdipapiaaGreatDoorKEnST11
/-! The examples of the chapter: the closed call, run by the evaluator with the entries at hand. -/
set_option linter.unusedVariables false
set_option maxRecDepth 1000000
namespace Go.Proofs.YtlglepkdipapiaaGreatDoor
open Go.RowKit
namespace Ev
theorem lives_run : isTrue (callM tbu msEnS11 100 tbu.l [] 7 [] ⟨hp, tbu.l⟩) = true := by kernel_rfl
theorem lives_any {w0 w : World} (hl : laidMetH Tryz.prog Rows.suresKnownRow.laid w0) (hw : Below w0.heap.size w0 w) : Calls Tryz.prog 7 #[] w fun e w' => e = .returned (.bool true) ∧ Below w.heap.size w w' :=
  closedM (tbu_ok w0) (msEnS11_ok hl) (start_ok hl) hw lives_run
end Ev
end Go.Proofs.YtlglepkdipapiaaGreatDoor

