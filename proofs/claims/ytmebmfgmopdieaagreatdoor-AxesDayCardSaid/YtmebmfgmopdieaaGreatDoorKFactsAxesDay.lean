/- The closed facts of the card, one by one (together they run out of memory in great programs); no function of the program has a go statement. -/
import Derived.Test.YtmebmfgmopdieaaGreatDoorKFacts
import Derived.Test.YtmebmfgmopdieaaGreatDoorCards
import Derived.WalkKit
import Derived.SevenTiedAt
import Derived.MakeChecks
import Derived.Deep.DeepHandedRow
/-! The closed facts of the card, one by one (together they run out of memory in great programs); no function of the program has a go statement. -/
set_option linter.unusedVariables false
set_option maxRecDepth 1000000
namespace Go.Proofs.YtmebmfgmopdieaaGreatDoor
open Go.ChangeShapes Go.WideShapes Go.ChangeAt Go.RowKit
namespace FactsAxesDay
theorem wf : (Rows.axesDayRow.wf (OpenSpec.ofChange (OpenSpec.ofChange Rows.axesDaySpec).bare)) = true := by kernel_rfl
theorem laidOut : (laidOutB Tryz.pinned.checked.prog) = true := by kernel_rfl
theorem mapsRowed : (mapsRowed Tryz.pinned.checked.prog) = true := by kernel_rfl
theorem inPlace : (Rows.axesDayRow.inPlace == Tryz.pinned.checked.prog.inPlace 4) = true := by kernel_rfl
theorem unfollowed : (Rows.axesDayRow.unfollowed == Tryz.pinned.checked.prog.unfollowed 4) = true := by kernel_rfl
theorem recurses : (Rows.axesDayRow.recurses == Tryz.pinned.checked.prog.recurses 4) = true := by kernel_rfl
theorem named : (Rows.axesDayRow.named == Tryz.pinned.checked.prog.varsNamed 4) = true := by kernel_rfl
theorem plainKeys : (Rows.axesDayRow.plainKeys == Tryz.pinned.checked.prog.plainKeys) = true := by kernel_rfl
theorem stopsHeard : (Tryz.pinned.checked.prog.stopsHeard) = true := by kernel_rfl
theorem mayEnter : (Tryz.pinned.checked.prog.mayEnter) = true := by kernel_rfl
theorem lifts : (Rows.axesDayRow.lifted == Tryz.pinned.checked.prog.liftsFinal) = true := by kernel_rfl
theorem make : (Tryz.pinned.checked.prog.make == some Rows.axesDayRow.make) = true := by kernel_rfl
theorem bt {a b : Bool} (h : a = true) (h2 : b = true) : (a && b) = true := by rw [h, h2]; rfl
theorem joined : joinedFacts Tryz.pinned.checked.prog 4 Tryz.f4 (OpenSpec.ofChange Rows.axesDaySpec).bare Rows.axesDayRow = true := by
  unfold joinedFacts
  exact (bt (bt (bt (bt (bt (bt (bt (bt (bt (bt (bt (bt (bt (bt (bt (bt (bt (bt (bt (bt (bt (bt (bt (bt (bt (bt (bt (bt (bt (bt (bt wf laidOut) mapsRowed) (by kernel_rfl)) (by kernel_rfl)) (by kernel_rfl)) (by kernel_rfl)) (by kernel_rfl)) (by kernel_rfl)) inPlace) unfollowed) recurses) named) (by kernel_rfl)) (by kernel_rfl)) (by kernel_rfl)) (by kernel_rfl)) (by kernel_rfl)) (by kernel_rfl)) (by kernel_rfl)) (by kernel_rfl)) (by kernel_rfl)) plainKeys) (by kernel_rfl)) stopsHeard) mayEnter) lifts) make) (by kernel_rfl)) (by kernel_rfl)) (by kernel_rfl)) (by kernel_rfl))
theorem goes : false = Rows.axesDayRow.goesBy Tryz.pinned.checked.prog := (goesBy_no noGo _ rfl).symm
end FactsAxesDay
end Go.Proofs.YtmebmfgmopdieaaGreatDoor

