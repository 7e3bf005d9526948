/- The closed facts of the card, one by one (together they run out of memory in great programs); no function of the program has a go statement. -/
import Derived.Test.YtmebmfgmopdieaaGreatDoorCards
import Derived.WalkKit
import Derived.SevenTiedAt
import Derived.MakeChecks
import Derived.Deep.DeepHandedRow
/-! The closed facts of the card, one by one (together they run out of memory in great programs); no function of the program has a go statement. -/
set_option linter.unusedVariables false
set_option maxRecDepth 1000000
namespace Go.Proofs.YtmebmfgmopdieaaGreatDoor
open Go.ChangeShapes Go.WideShapes Go.ChangeAt Go.RowKit
theorem noGo : Tryz.prog.funcs.toList.all (fun f => !f.goes) = true := by kernel_rfl
theorem goes_no {P : Program} (h : P.funcs.toList.all (fun f => !f.goes) = true) (f : FuncId) : P.goes f = false := by
  have hall : ∀ fn ∈ P.funcs, Func.goes fn = false := fun fn hf => by
    have := List.all_eq_true.1 h fn (Array.mem_toList_iff.2 hf)
    simpa using this
  have h1 : ∀ g : FuncId, (P.funcs[g]?).any Func.goes = false := fun g => by
    cases hg : P.funcs[g]? with
    | none => rfl
    | some fn => exact hall fn (Array.mem_of_getElem? hg)
  have h2 : P.funcs.any Func.goes = false := by
    rw [Array.any_eq_false']
    intro x hx hc
    rw [hall x hx] at hc; cases hc
  unfold Program.goes
  rw [h2, Bool.and_false, Bool.or_false]
  rw [List.any_eq_false]
  intro g _
  rw [h1 g]; exact Bool.false_ne_true
theorem goesBy_no {P : Program} (h : P.funcs.toList.all (fun f => !f.goes) = true) (c : OpenClaim) (hs : c.start = .entering) : c.goesBy P = false := by
  unfold OpenClaim.goesBy Program.goesAt
  rw [hs]
  simp only [Bool.or_false]
  unfold Program.goesFrom
  cases P.funcNamed c.func with
  | none => rfl
  | some f => exact goes_no h f
namespace Facts
theorem wf : (Rows.axesKnownRow.wf (OpenSpec.ofChange (OpenSpec.ofChange Rows.axesKnownSpec).bare)) = true := by kernel_rfl
theorem laidOut : (laidOutB Tryz.pinned.checked.prog) = true := by kernel_rfl
theorem mapsRowed : (mapsRowed Tryz.pinned.checked.prog) = true := by kernel_rfl
theorem inPlace : (Rows.axesKnownRow.inPlace == Tryz.pinned.checked.prog.inPlace 5) = true := by kernel_rfl
theorem unfollowed : (Rows.axesKnownRow.unfollowed == Tryz.pinned.checked.prog.unfollowed 5) = true := by kernel_rfl
theorem recurses : (Rows.axesKnownRow.recurses == Tryz.pinned.checked.prog.recurses 5) = true := by kernel_rfl
theorem named : (Rows.axesKnownRow.named == Tryz.pinned.checked.prog.varsNamed 5) = true := by kernel_rfl
theorem plainKeys : (Rows.axesKnownRow.plainKeys == Tryz.pinned.checked.prog.plainKeys) = true := by kernel_rfl
theorem stopsHeard : (Tryz.pinned.checked.prog.stopsHeard) = true := by kernel_rfl
theorem mayEnter : (Tryz.pinned.checked.prog.mayEnter) = true := by kernel_rfl
theorem lifts : (Rows.axesKnownRow.lifted == Tryz.pinned.checked.prog.liftsFinal) = true := by kernel_rfl
theorem make : (Tryz.pinned.checked.prog.make == some Rows.axesKnownRow.make) = true := by kernel_rfl
theorem bt {a b : Bool} (h : a = true) (h2 : b = true) : (a && b) = true := by rw [h, h2]; rfl
theorem joined : joinedFacts Tryz.pinned.checked.prog 5 Tryz.f5 (OpenSpec.ofChange Rows.axesKnownSpec).bare Rows.axesKnownRow = true := by
  unfold joinedFacts
  exact (bt (bt (bt (bt (bt (bt (bt (bt (bt (bt (bt (bt (bt (bt (bt (bt (bt (bt (bt (bt (bt (bt (bt (bt (bt (bt (bt (bt (bt (bt (bt wf laidOut) mapsRowed) (by kernel_rfl)) (by kernel_rfl)) (by kernel_rfl)) (by kernel_rfl)) (by kernel_rfl)) (by kernel_rfl)) inPlace) unfollowed) recurses) named) (by kernel_rfl)) (by kernel_rfl)) (by kernel_rfl)) (by kernel_rfl)) (by kernel_rfl)) (by kernel_rfl)) (by kernel_rfl)) (by kernel_rfl)) (by kernel_rfl)) plainKeys) (by kernel_rfl)) stopsHeard) mayEnter) lifts) make) (by kernel_rfl)) (by kernel_rfl)) (by kernel_rfl)) (by kernel_rfl))
theorem goes : false = Rows.axesKnownRow.goesBy Tryz.pinned.checked.prog := (goesBy_no noGo _ rfl).symm
end Facts
end Go.Proofs.YtmebmfgmopdieaaGreatDoor

