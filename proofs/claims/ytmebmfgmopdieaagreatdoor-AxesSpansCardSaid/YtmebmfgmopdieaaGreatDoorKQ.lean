/- The closed facts of the card, one by one (together they run out of memory in great programs); no function of the program has a go statement. -/
import Derived.Test.YtmebmfgmopdieaaGreatDoorKP
import Derived.Test.YtmebmfgmopdieaaGreatDoorCards
import Derived.WalkKit
import Derived.SevenTiedAt
import Derived.MakeChecks
import Derived.Deep.DeepHandedRow
/-! The closed facts of the card, one by one (together they run out of memory in great programs); no function of the program has a go statement. -/
set_option linter.unusedVariables false
set_option maxRecDepth 1000000
namespace Go.Proofs.YtmebmfgmopdieaaGreatDoor
open Go.ChangeShapes Go.WideShapes Go.ChangeAt Go.RowKit
namespace FactsAxesSpans
theorem wf : (Rows.axesSpansRow.wf (OpenSpec.ofChange (OpenSpec.ofChange Rows.axesSpansSpec).bare)) = true := by kernel_rfl
theorem laidOut : (laidOutB Tryz.pinned.checked.prog) = true := by kernel_rfl
theorem mapsRowed : (mapsRowed Tryz.pinned.checked.prog) = true := by kernel_rfl
theorem inPlace : (Rows.axesSpansRow.inPlace == Tryz.pinned.checked.prog.inPlace 6) = true := by kernel_rfl
theorem unfollowed : (Rows.axesSpansRow.unfollowed == Tryz.pinned.checked.prog.unfollowed 6) = true := by kernel_rfl
theorem recurses : (Rows.axesSpansRow.recurses == Tryz.pinned.checked.prog.recurses 6) = true := by kernel_rfl
theorem named : (Rows.axesSpansRow.named == Tryz.pinned.checked.prog.varsNamed 6) = true := by kernel_rfl
theorem plainKeys : (Rows.axesSpansRow.plainKeys == Tryz.pinned.checked.prog.plainKeys) = true := by kernel_rfl
theorem stopsHeard : (Tryz.pinned.checked.prog.stopsHeard) = true := by kernel_rfl
theorem mayEnter : (Tryz.pinned.checked.prog.mayEnter) = true := by kernel_rfl
theorem lifts : (Rows.axesSpansRow.lifted == Tryz.pinned.checked.prog.liftsFinal) = true := by kernel_rfl
theorem make : (Tryz.pinned.checked.prog.make == some Rows.axesSpansRow.make) = true := by kernel_rfl
theorem bt {a b : Bool} (h : a = true) (h2 : b = true) : (a && b) = true := by rw [h, h2]; rfl
theorem joined : joinedFacts Tryz.pinned.checked.prog 6 Tryz.f6 (OpenSpec.ofChange Rows.axesSpansSpec).bare Rows.axesSpansRow = true := by
  unfold joinedFacts
  exact (bt (bt (bt (bt (bt (bt (bt (bt (bt (bt (bt (bt (bt (bt (bt (bt (bt (bt (bt (bt (bt (bt (bt (bt (bt (bt (bt (bt (bt (bt (bt wf laidOut) mapsRowed) (by kernel_rfl)) (by kernel_rfl)) (by kernel_rfl)) (by kernel_rfl)) (by kernel_rfl)) (by kernel_rfl)) inPlace) unfollowed) recurses) named) (by kernel_rfl)) (by kernel_rfl)) (by kernel_rfl)) (by kernel_rfl)) (by kernel_rfl)) (by kernel_rfl)) (by kernel_rfl)) (by kernel_rfl)) (by kernel_rfl)) plainKeys) (by kernel_rfl)) stopsHeard) mayEnter) lifts) make) (by kernel_rfl)) (by kernel_rfl)) (by kernel_rfl)) (by kernel_rfl))
theorem goes : false = Rows.axesSpansRow.goesBy Tryz.pinned.checked.prog := (goesBy_no noGo _ rfl).symm
end FactsAxesSpans
end Go.Proofs.YtmebmfgmopdieaaGreatDoor

