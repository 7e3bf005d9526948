/- UnitsHolding is proved: for every input it returns true, and its arguments read as before; the package-level variables that its row lists start as the program's text lays them (the card ties them). -/
import Derived.Test.YtipjmaimjchckaaGreatDoorMN
import Derived.SevenTiedAt
import Derived.MakeChecks
/-! UnitsHolding is proved: for every input it returns true, and its arguments read as before; the package-level variables that its row lists start as the program's text lays them (the card ties them). -/
set_option linter.unusedSimpArgs false
set_option linter.unusedVariables false
set_option maxRecDepth 100000
namespace Go.Proofs.YtipjmaimjchckaaGreatDoor
open Go.ChangeShapes Go.WideShapes Go.ChangeAt Go.RowKit

set_option maxRecDepth 100000 in
theorem unitsHolding_contract (H : Type) (enc : TypeId × Value → H) (W : World) (base : Nat) (args : Array Value) (ds gs : List (DataW H)) (before : List MemPlace)
    (hval : ∀ (j : Nat) t v, Tryz.f3.params[j]? = some t → args[j]? = some v → Value.okWide Tryz.prog W .any base t v)
    (hW : DataW.Whole enc Tryz.prog Tryz.f3.params.toList Rows.unitsHoldingSpec.vars false W args.toList ds gs before) (hL : laidMetH Tryz.prog Rows.unitsHoldingRow.laid W) :
    Calls Tryz.prog 3 args W fun e W' => ∃ v, e = .returned v ∧ Rows.unitsHoldingSpec.post enc Tryz.prog Tryz.f3 false true false false W args v W' := by
  have hW' := hW
  obtain ⟨p, q, hA0, hV, rfl, hfz, hnd⟩ := hW
  have hA : DataW.TrodAll enc Tryz.prog W 0 (fun _ => true) true Tryz.f3.params.toList args.toList ds p := hA0
  rw [Tryz.params3] at hA hval
  obtain ⟨v0, v1, d0, d1, p0, p1, rfl, rfl, rfl, h0, h1⟩ := trodAll_two hA
  obtain ⟨rfl, rfl⟩ := trodVars_none hV
  obtain ⟨x0, rfl, rfl, rfl, w0⟩ := open_int Tryz.underlying2 (hval 0 2 v0 rfl rfl) h0
  obtain ⟨x1, rfl, rfl, rfl, w1⟩ := open_int Tryz.underlying5 (hval 1 5 v1 rfl rfl) h1
  clear hA0
  simp only [List.append_nil] at hW'
  have hLm : laidMet Tryz.prog Rows.unitsKnownRow.laid W := by
    rw [Go.MakeChecks.laidMetH_plain _ _ _ (by kernel_rfl)] at hL
    rw [show Rows.unitsHoldingRow.laid = Rows.unitsKnownRow.laid from by kernel_rfl] at hL
    exact hL
  refine (Un.lawHolding_any x0 x1 W (Un.calOk_of_laid hLm) (fun W2 hb => Ev.lives_any hLm hb) (wf_i64 w0).1 (wf_i64 w0).2 (wf_u8 w1).1 (wf_u8 w1).2).mono fun e W' ⟨he, hg⟩ => ?_
  subst he
  exact ⟨_, rfl, _, _, _, [], [], [], hW', trodAll_mk1 (shut_bool Tryz.underlying4 true), trodAll_mk2 (shut_int Tryz.underlying2 w0) (shut_int Tryz.underlying5 w1), rfl, hg.frame _, fun h => by cases h⟩

theorem unitsHolding_reads (os : Os) {H : Type} (enc : TypeId × Value → H) : ∃ places, DataW.whole enc Tryz.prog ((Un.laidWorld os).forCall (fun _ _ => 0) ⟨#[], #[.int .i64 0, .int .u8 0], []⟩).memory Tryz.f3.params.toList Rows.unitsHoldingSpec.vars false #[Value.int .i64 0, .int .u8 0].toList 8 = some ([.lit (.int .i64 0), .lit (.int .u8 0)], [], places) :=
  ⟨[], by kernel_rfl⟩

set_option maxRecDepth 100000 in
theorem unitsHolding_lifted (os : Os) (started : os.Started) (H : Type) (enc : TypeId × Value → H) (F : Stop.Interp) :
    ReturnsInHanded {} Tryz.checked os 3 .any ((OpenSpec.ofChange Rows.unitsHoldingSpec).preRow enc Tryz.prog Tryz.f3 Rows.unitsHoldingRow.domain false Rows.unitsHoldingRow.laid) (((OpenSpec.ofChange Rows.unitsHoldingSpec).at F).post enc Tryz.prog Tryz.f3 false true false false) := by
  obtain ⟨places, hx⟩ := unitsHolding_reads os enc
  refine returnsInHanded_of_row (C := Tryz.checked) (s := OpenSpec.ofChange Rows.unitsHoldingSpec) Un.own started (by kernel_rfl) Tryz.func3
    (row_witness (enc := enc) (C := Tryz.checked) (Un.laidWorld os) #[.int .i64 0, .int .u8 0] rfl (by kernel_rfl) (by kernel_rfl) (by kernel_rfl)
      (OpenSpec.preRow_of_cond 8 hx (by kernel_rfl) (fun k hk => by cases hk) (by kernel_rfl) (Un.laid_met os _))) ?_
  intro W base args ds gs before hval hW _ _ _ hL _ _
  exact unitsHolding_contract H enc W base args ds gs before hval hW hL

theorem unitsHolding_said : Rows.UnitsHoldingSaid :=
  OpenClaim.holds_of_cond 3 Tryz.f3 rfl rfl rfl rfl rfl rfl rfl ⟨rfl, rfl, rfl, rfl, rfl⟩ rfl rfl rfl rfl rfl (by kernel_rfl) Tryz.func3 (by kernel_rfl)
    (of_decide_eq_true (by kernel_rfl)) (by unfold Func.isWrapper; first | (rw [if_pos (by decide +kernel)]; kernel_rfl) | (rw [if_neg (by decide +kernel)]; exact ⟨rfl, rfl⟩))
    (fun os started H enc _ F => by rw [OpenClaim.pre_eq_preRow]; exact unitsHolding_lifted os started H enc F)

theorem unitsHolding_plain (f : FuncId) (fn : Func) (hf : Tryz.pinned.checked.prog.funcNamed "circa/circalaw23.UnitsHolding" = some f) (hfn : Tryz.pinned.checked.prog.funcs[f]? = some fn) :
    true = Tryz.pinned.checked.prog.looks [] ∧ ∀ (j : Nat) t, fn.params[j]? = some t → Tryz.pinned.checked.prog.wantsStandIn t = false := by
  obtain rfl : f = 3 := Option.some.inj ((show Tryz.prog.funcNamed "circa/circalaw23.UnitsHolding" = some 3 by kernel_rfl).symm.trans hf) |>.symm
  obtain rfl : fn = Tryz.f3 := (Option.some.inj (Tryz.func3.symm.trans hfn)).symm
  refine ⟨by kernel_rfl, fun j t ht => ?_⟩
  rw [Tryz.params3] at ht
  have hm := Array.mem_of_getElem? ht
  simp only [List.mem_toArray, List.mem_cons, List.not_mem_nil, or_false] at hm
  rcases hm with rfl | rfl
  · exact (show Tryz.prog.wantsStandIn 2 = false by kernel_rfl)
  · exact (show Tryz.prog.wantsStandIn 5 = false by kernel_rfl)

/-- ████ THE CARD ████ -/
theorem unitsHolding_card : Rows.UnitsHoldingCardSaid :=
  Claim7.holds_tied_plain_at .later [] _ _ _ _ unitsHolding_said (fun _ h => by cases h) (by kernel_rfl) (fun _ h => by cases h) unitsHolding_row_tie rfl ⟨rfl, rfl⟩ (by kernel_rfl) rfl unitsHolding_plain (by kernel_rfl)
end Go.Proofs.YtipjmaimjchckaaGreatDoor

