/- AxesKnown is proved: for every input it returns true, and its arguments read as before; the package-level variables that its row lists start as the program's text lays them (the card ties them). -/
import Derived.Test.YtmebmfgmopdieaaGreatDoorKLawRun
import Derived.Test.YtmebmfgmopdieaaGreatDoorKLaid
import Derived.Test.YtmebmfgmopdieaaGreatDoorKFacts
import Derived.Test.YtmebmfgmopdieaaGreatDoorCards
import Derived.Test.YtmebmfgmopdieaaGreatDoorTie
import Derived.Test.YtmebmfgmopdieaaGreatDoorKCommon
import Derived.SevenTiedAt
import Derived.Test.YtmebmfgmopdieaaGreatDoorKWit
import Derived.MakeChecks
/-! AxesKnown is proved: for every input it returns true, and its arguments read as before; the package-level variables that its row lists start as the program's text lays them (the card ties them). -/
set_option linter.unusedSimpArgs false
set_option linter.unusedVariables false
set_option maxRecDepth 100000
namespace Go.Proofs.YtmebmfgmopdieaaGreatDoor
open Go.ChangeShapes Go.WideShapes Go.ChangeAt Go.RowKit

set_option maxRecDepth 100000 in
theorem axesKnown_contract (H : Type) (enc : TypeId × Value → H) (W : World) (base : Nat) (args : Array Value) (ds gs : List (DataW H)) (before : List MemPlace)
    (hval : ∀ (j : Nat) t v, Tryz.f5.params[j]? = some t → args[j]? = some v → Value.okWide Tryz.prog W .any base t v)
    (hW : DataW.Whole enc Tryz.prog Tryz.f5.params.toList Rows.axesKnownSpec.vars false W args.toList ds gs before) (hL : laidMetH Tryz.prog Rows.axesKnownRow.laid W) :
    Calls Tryz.prog 5 args W fun e W' => ∃ v, e = .returned v ∧ Rows.axesKnownSpec.post enc Tryz.prog Tryz.f5 false true false false W args v W' := by
  have hW' := hW
  obtain ⟨p, q, hA0, hV, rfl, hfz, hnd⟩ := hW
  have hA : DataW.TrodAll enc Tryz.prog W 0 (fun _ => true) true Tryz.f5.params.toList args.toList ds p := hA0
  rw [Tryz.params5] at hA hval
  obtain ⟨rfl, rfl, rfl⟩ := trodAll_none hA
  obtain ⟨rfl, rfl⟩ := trodVars_none hV
  clear hA0
  simp only [List.append_nil] at hW'
  refine (Ev.law_any hL (Below.refl _ W)).mono fun e W' ⟨he, hg⟩ => ?_
  subst he
  exact ⟨_, rfl, _, _, _, [], [], [], hW', trodAll_mk1 (shut_bool Tryz.underlying4 true), trodAll_mk0, rfl, hg.frame _, fun h => by cases h⟩

theorem axesKnown_reads (os : Os) {H : Type} (enc : TypeId × Value → H) : ∃ places, DataW.whole enc Tryz.prog ((Un.laidWorld os).forCall (fun _ _ => 0) ⟨#[], #[], []⟩).memory Tryz.f5.params.toList Rows.axesKnownSpec.vars false (#[] : Array Value).toList 8 = some ([], [], places) :=
  ⟨[], by kernel_rfl⟩

set_option maxRecDepth 100000 in
theorem axesKnown_lifted (os : Os) (started : os.Started) (H : Type) (enc : TypeId × Value → H) (F : Stop.Interp) :
    ReturnsInHanded {} Tryz.checked os 5 .any ((OpenSpec.ofChange Rows.axesKnownSpec).preRow enc Tryz.prog Tryz.f5 Rows.axesKnownRow.domain false Rows.axesKnownRow.laid) (((OpenSpec.ofChange Rows.axesKnownSpec).at F).post enc Tryz.prog Tryz.f5 false true false false) := by
  obtain ⟨places, hx⟩ := axesKnown_reads os enc
  refine returnsInHanded_of_row (C := Tryz.checked) (s := OpenSpec.ofChange Rows.axesKnownSpec) Un.own started (by kernel_rfl) Tryz.func5
    (row_witness (enc := enc) (C := Tryz.checked) (Un.laidWorld os) #[] rfl (by kernel_rfl) (by kernel_rfl) (by kernel_rfl)
      (OpenSpec.preRow_of_cond 8 hx (by kernel_rfl) (fun k hk => by cases hk) (by kernel_rfl) (Un.laid_met os _))) ?_
  intro W base args ds gs before hval hW _ _ _ hL _ _
  exact axesKnown_contract H enc W base args ds gs before hval hW hL

theorem axesKnown_said : Rows.AxesKnownSaid :=
  OpenClaim.holds_of_cond 5 Tryz.f5 rfl rfl rfl rfl rfl rfl rfl ⟨rfl, rfl, rfl, rfl, rfl⟩ rfl rfl rfl rfl rfl (by kernel_rfl) Tryz.func5 Facts.joined
    (of_decide_eq_true (by kernel_rfl)) (by unfold Func.isWrapper; first | (rw [if_pos (by decide +kernel)]; kernel_rfl) | (rw [if_neg (by decide +kernel)]; exact ⟨rfl, rfl⟩))
    (fun os started H enc _ F => by rw [OpenClaim.pre_eq_preRow]; exact axesKnown_lifted os started H enc F)

theorem axesKnown_plain (f : FuncId) (fn : Func) (hf : Tryz.pinned.checked.prog.funcNamed "circa/circalaw36.AxesKnown" = some f) (hfn : Tryz.pinned.checked.prog.funcs[f]? = some fn) :
    true = Tryz.pinned.checked.prog.looks [] ∧ ∀ (j : Nat) t, fn.params[j]? = some t → Tryz.pinned.checked.prog.wantsStandIn t = false := by
  obtain rfl : f = 5 := Option.some.inj ((show Tryz.prog.funcNamed "circa/circalaw36.AxesKnown" = some 5 by kernel_rfl).symm.trans hf) |>.symm
  obtain rfl : fn = Tryz.f5 := (Option.some.inj (Tryz.func5.symm.trans hfn)).symm
  refine ⟨by kernel_rfl, fun j t ht => ?_⟩
  rw [Tryz.params5] at ht
  simp at ht

/-- ████ THE CARD ████ -/
theorem axesKnown_card : Rows.AxesKnownCardSaid :=
  Claim7.holds_tied_plain_at .later [] _ _ _ _ axesKnown_said (fun _ h => by cases h) (by kernel_rfl) (fun _ h => by cases h) axesKnown_row_tie rfl ⟨rfl, rfl⟩ (by kernel_rfl) rfl axesKnown_plain Facts.goes
end Go.Proofs.YtmebmfgmopdieaaGreatDoor

