/- AxesDay is proved: for every input it returns true, and its arguments read as before; the package-level variables that its row lists start as the program's text lays them (the card ties them). -/
import Derived.Test.YtmebmfgmopdieaaGreatDoorFE
import Derived.Test.YtmebmfgmopdieaaGreatDoorKLivesRun
import Derived.Test.YtmebmfgmopdieaaGreatDoorKLaid
import Derived.Test.YtmebmfgmopdieaaGreatDoorKFactsAxesDay
import Derived.Test.YtmebmfgmopdieaaGreatDoorCards
import Derived.Test.YtmebmfgmopdieaaGreatDoorTie
import Derived.Test.YtmebmfgmopdieaaGreatDoorKCommon
import Derived.Test.YtmebmfgmopdieaaGreatDoorKWit
import Derived.SevenTiedAt
import Derived.MakeChecks
/-! AxesDay is proved: for every input it returns true, and its arguments read as before; the package-level variables that its row lists start as the program's text lays them (the card ties them). -/
set_option linter.unusedSimpArgs false
set_option linter.unusedVariables false
set_option maxRecDepth 100000
namespace Go.Proofs.YtmebmfgmopdieaaGreatDoor
open Go.ChangeShapes Go.WideShapes Go.ChangeAt Go.RowKit


set_option maxRecDepth 100000 in
theorem axesDay_contract (H : Type) (enc : TypeId × Value → H) (W : World) (base : Nat) (args : Array Value) (ds gs : List (DataW H)) (before : List MemPlace)
    (hval : ∀ (j : Nat) t v, Tryz.f4.params[j]? = some t → args[j]? = some v → Value.okWide Tryz.prog W .any base t v)
    (hW : DataW.Whole enc Tryz.prog Tryz.f4.params.toList Rows.axesDaySpec.vars false W args.toList ds gs before) (hL : laidMetH Tryz.prog Rows.axesDayRow.laid W) :
    Calls Tryz.prog 4 args W fun e W' => ∃ v, e = .returned v ∧ Rows.axesDaySpec.post enc Tryz.prog Tryz.f4 false true false false W args v W' := by
  have hW' := hW
  obtain ⟨p, q, hA0, hV, rfl, hfz, hnd⟩ := hW
  have hA : DataW.TrodAll enc Tryz.prog W 0 (fun _ => true) true Tryz.f4.params.toList args.toList ds p := hA0
  rw [Tryz.params4] at hA hval
  obtain ⟨v0, v1, d0, d1, p0, p1, rfl, rfl, rfl, h0, h1⟩ := trodAll_two hA
  obtain ⟨rfl, rfl⟩ := trodVars_none hV
  obtain ⟨x, rfl, rfl, rfl, wx⟩ := open_float Tryz.underlying27 (hval 0 27 v0 rfl rfl) h0
  obtain ⟨n, rfl, rfl, rfl, wn⟩ := open_int Tryz.underlying2 (hval 1 2 v1 rfl rfl) h1
  clear hA0
  simp only [List.append_nil] at hW'
  have hLm : laidMetH Tryz.prog Rows.axesKnownRow.laid W := by
    rw [show Rows.axesDayRow.laid = Rows.axesKnownRow.laid from by kernel_rfl] at hL
    exact hL
  refine (Ax.lawDay_any x n W (wf_f64 wx) (wf_i64 wn).1 (wf_i64 wn).2 (fun W2 hb => Ev.lives_any hLm hb)).mono fun e W' ⟨he, hg⟩ => ?_
  subst he
  exact ⟨_, rfl, _, _, _, [], [], [], hW', trodAll_mk1 (shut_bool Tryz.underlying4 true), trodAll_mk2 (shut_float Tryz.underlying27 wx) (shut_int Tryz.underlying2 wn), rfl, hg.frame _, fun h => by cases h⟩

theorem axesDay_reads (os : Os) {H : Type} (enc : TypeId × Value → H) : ∃ places, DataW.whole enc Tryz.prog ((Un.laidWorld os).forCall (fun _ _ => 0) ⟨#[], #[.float .f64 0, .int .i64 0], []⟩).memory Tryz.f4.params.toList Rows.axesDaySpec.vars false #[.float .f64 0, .int .i64 0].toList 8 = some ([.lit (.float .f64 0), .lit (.int .i64 0)], [], places) :=
  ⟨[], by kernel_rfl⟩

theorem axesDay_met (os : Os) (args : Array Value) : laidMetH Tryz.prog Rows.axesDayRow.laid ((Un.laidWorld os).forCall (fun _ _ => 0) ⟨#[], args, []⟩).memory := by
  rw [show Rows.axesDayRow.laid = Rows.axesKnownRow.laid from by kernel_rfl]
  exact Un.laid_met os args

set_option maxRecDepth 100000 in
theorem axesDay_lifted (os : Os) (started : os.Started) (H : Type) (enc : TypeId × Value → H) (F : Stop.Interp) :
    ReturnsInHanded {} Tryz.checked os 4 .any ((OpenSpec.ofChange Rows.axesDaySpec).preRow enc Tryz.prog Tryz.f4 Rows.axesDayRow.domain false Rows.axesDayRow.laid) (((OpenSpec.ofChange Rows.axesDaySpec).at F).post enc Tryz.prog Tryz.f4 false true false false) := by
  obtain ⟨places, hx⟩ := axesDay_reads os enc
  refine returnsInHanded_of_row (C := Tryz.checked) (s := OpenSpec.ofChange Rows.axesDaySpec) Un.own started (by kernel_rfl) Tryz.func4
    (row_witness (enc := enc) (C := Tryz.checked) (Un.laidWorld os) #[.float .f64 0, .int .i64 0] rfl (by kernel_rfl) (by kernel_rfl) (by kernel_rfl)
      (OpenSpec.preRow_of_cond 8 hx (by kernel_rfl) (fun k hk => by cases hk) (by kernel_rfl) (axesDay_met os _))) ?_
  intro W base args ds gs before hval hW _ _ _ hL _ _
  exact axesDay_contract H enc W base args ds gs before hval hW hL

theorem axesDay_said : Rows.AxesDaySaid :=
  OpenClaim.holds_of_cond 4 Tryz.f4 rfl rfl rfl rfl rfl rfl rfl ⟨rfl, rfl, rfl, rfl, rfl⟩ rfl rfl rfl rfl rfl (by kernel_rfl) Tryz.func4 FactsAxesDay.joined
    (of_decide_eq_true (by kernel_rfl)) (by unfold Func.isWrapper; first | (rw [if_pos (by decide +kernel)]; kernel_rfl) | (rw [if_neg (by decide +kernel)]; exact ⟨rfl, rfl⟩))
    (fun os started H enc _ F => by rw [OpenClaim.pre_eq_preRow]; exact axesDay_lifted os started H enc F)

theorem axesDay_plain (f : FuncId) (fn : Func) (hf : Tryz.pinned.checked.prog.funcNamed "circa/circalaw36.AxesDay" = some f) (hfn : Tryz.pinned.checked.prog.funcs[f]? = some fn) :
    true = Tryz.pinned.checked.prog.looks [] ∧ ∀ (j : Nat) t, fn.params[j]? = some t → Tryz.pinned.checked.prog.wantsStandIn t = false := by
  obtain rfl : f = 4 := Option.some.inj ((show Tryz.prog.funcNamed "circa/circalaw36.AxesDay" = some 4 by kernel_rfl).symm.trans hf) |>.symm
  obtain rfl : fn = Tryz.f4 := (Option.some.inj (Tryz.func4.symm.trans hfn)).symm
  refine ⟨by kernel_rfl, fun j t ht => ?_⟩
  rw [Tryz.params4] at ht
  have hm := Array.mem_of_getElem? ht
  simp only [List.mem_toArray, List.mem_cons, List.not_mem_nil, or_false] at hm
  rcases hm with rfl | rfl
  · exact (show Tryz.prog.wantsStandIn 27 = false by kernel_rfl)
  · exact (show Tryz.prog.wantsStandIn 2 = false by kernel_rfl)

/-- ████ THE CARD ████ -/
theorem axesDay_card : Rows.AxesDayCardSaid :=
  Claim7.holds_tied_plain_at .later [] _ _ _ _ axesDay_said (fun _ h => by cases h) (by kernel_rfl) (fun _ h => by cases h) axesDay_row_tie rfl ⟨rfl, rfl⟩ (by kernel_rfl) rfl axesDay_plain FactsAxesDay.goes
end Go.Proofs.YtmebmfgmopdieaaGreatDoor

