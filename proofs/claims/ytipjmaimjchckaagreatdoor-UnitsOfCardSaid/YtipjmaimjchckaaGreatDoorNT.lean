/- UnitsOf is proved: for every input it returns true, and its arguments read as before; the package-level variables that its row lists start as the program's text lays them (the card ties them). -/
import Derived.Test.YtipjmaimjchckaaGreatDoorNS
import Derived.Test.YtipjmaimjchckaaGreatDoorNR
import Derived.Test.YtipjmaimjchckaaGreatDoorCards
import Derived.Test.YtipjmaimjchckaaGreatDoorTie
import Derived.SevenTiedAt
import Derived.MakeChecks
/-! UnitsOf is proved: for every input it returns true, and its arguments read as before; the package-level variables that its row lists start as the program's text lays them (the card ties them). -/
set_option linter.unusedSimpArgs false
set_option linter.unusedVariables false
set_option maxRecDepth 100000
namespace Go.Proofs.YtipjmaimjchckaaGreatDoor
open Go.ChangeShapes Go.WideShapes Go.ChangeAt Go.RowKit


set_option maxRecDepth 100000 in
theorem unitsOf_contract (H : Type) (enc : TypeId × Value → H) (W : World) (base : Nat) (args : Array Value) (ds gs : List (DataW H)) (before : List MemPlace)
    (hval : ∀ (j : Nat) t v, Tryz.f6.params[j]? = some t → args[j]? = some v → Value.okWide Tryz.prog W .any base t v)
    (hW : DataW.Whole enc Tryz.prog Tryz.f6.params.toList Rows.unitsOfSpec.vars false W args.toList ds gs before) (hL : laidMetH Tryz.prog Rows.unitsOfRow.laid W) :
    Calls Tryz.prog 6 args W fun e W' => ∃ v, e = .returned v ∧ Rows.unitsOfSpec.post enc Tryz.prog Tryz.f6 false true false false W args v W' := by
  have hW' := hW
  obtain ⟨p, q, hA0, hV, rfl, hfz, hnd⟩ := hW
  have hA : DataW.TrodAll enc Tryz.prog W 0 (fun _ => true) true Tryz.f6.params.toList args.toList ds p := hA0
  rw [Tryz.params6] at hA hval
  obtain ⟨v0, v1, d0, d1, p0, p1, rfl, rfl, rfl, h0, h1⟩ := trodAll_two hA
  obtain ⟨rfl, rfl⟩ := trodVars_none hV
  obtain ⟨d, rfl, rfl, rfl, wd⟩ := Bk.open_date (hval 0 52 v0 rfl rfl) h0
  obtain ⟨y, m, k, rfl, rfl, rfl, wy, wm, wk⟩ := Bk.open_civil (hval 1 56 v1 rfl rfl) h1
  clear hA0
  simp only [List.append_nil] at hW'
  have hLm : laidMetH Tryz.prog Rows.unitsKnownRow.laid W := by
    rw [show Rows.unitsOfRow.laid = Rows.unitsKnownRow.laid from by kernel_rfl] at hL
    exact hL
  refine (Bk.lawOf_any d y m k W (Bk.wOk_of_laid (Bk.laidP hLm)) (fun W2 hb => Ev.lives_any (Bk.laidP hLm) hb) (wf_i64 wd.sig).1 (wf_i64 wd.sig).2 (wf_u8 wd.m0).1 (wf_u8 wd.m1).1 (wf_u8 wd.m2).1 (wf_i64 wy).1 (wf_i64 wy).2).mono fun e W' ⟨he, hg⟩ => ?_
  subst he
  exact ⟨_, rfl, _, _, _, [], [], [], hW', trodAll_mk1 (shut_bool Tryz.underlying4 true), trodAll_mk2 (Bk.shut_date wd) (Bk.shut_civil wy wm wk), rfl, hg.frame _, fun h => by cases h⟩

theorem unitsOf_reads (os : Os) {H : Type} (enc : TypeId × Value → H) : ∃ places, DataW.whole enc Tryz.prog ((Un.laidWorld os).forCall (fun _ _ => 0) ⟨#[], #[Bk.dtv ⟨false, false, ⟨#[]⟩, 0, 0, ⟨#[]⟩, ⟨#[]⟩, 0, 0, 0⟩, Bk.cvv 0 0 0], []⟩).memory Tryz.f6.params.toList Rows.unitsOfSpec.vars false #[Bk.dtv ⟨false, false, ⟨#[]⟩, 0, 0, ⟨#[]⟩, ⟨#[]⟩, 0, 0, 0⟩, Bk.cvv 0 0 0].toList 8 = some ([Bk.datD ⟨false, false, ⟨#[]⟩, 0, 0, ⟨#[]⟩, ⟨#[]⟩, 0, 0, 0⟩, .agg [.lit (.int .i64 0), .lit (.int .i64 0), .lit (.int .i64 0)]], [], places) :=
  ⟨[], by kernel_rfl⟩

theorem unitsOf_met (os : Os) (args : Array Value) : laidMetH Tryz.prog Rows.unitsOfRow.laid ((Un.laidWorld os).forCall (fun _ _ => 0) ⟨#[], args, []⟩).memory := by
  rw [show Rows.unitsOfRow.laid = Rows.unitsKnownRow.laid from by kernel_rfl]
  exact Bk.laid_metH os args

set_option maxRecDepth 100000 in
theorem unitsOf_lifted (os : Os) (started : os.Started) (H : Type) (enc : TypeId × Value → H) (F : Stop.Interp) :
    ReturnsInHanded {} Tryz.checked os 6 .any ((OpenSpec.ofChange Rows.unitsOfSpec).preRow enc Tryz.prog Tryz.f6 Rows.unitsOfRow.domain false Rows.unitsOfRow.laid) (((OpenSpec.ofChange Rows.unitsOfSpec).at F).post enc Tryz.prog Tryz.f6 false true false false) := by
  obtain ⟨places, hx⟩ := unitsOf_reads os enc
  refine returnsInHanded_of_row (C := Tryz.checked) (s := OpenSpec.ofChange Rows.unitsOfSpec) Un.own started (by kernel_rfl) Tryz.func6
    (row_witness (enc := enc) (C := Tryz.checked) (Un.laidWorld os) #[Bk.dtv ⟨false, false, ⟨#[]⟩, 0, 0, ⟨#[]⟩, ⟨#[]⟩, 0, 0, 0⟩, Bk.cvv 0 0 0] rfl (by kernel_rfl) (by kernel_rfl) (by kernel_rfl)
      (OpenSpec.preRow_of_cond 8 hx (by kernel_rfl) (fun k hk => by cases hk) (by kernel_rfl) (unitsOf_met os _))) ?_
  intro W base args ds gs before hval hW _ _ _ hL _ _
  exact unitsOf_contract H enc W base args ds gs before hval hW hL

theorem unitsOf_said : Rows.UnitsOfSaid :=
  OpenClaim.holds_of_cond 6 Tryz.f6 rfl rfl rfl rfl rfl rfl rfl ⟨rfl, rfl, rfl, rfl, rfl⟩ rfl rfl rfl rfl rfl (by kernel_rfl) Tryz.func6 (by kernel_rfl)
    (of_decide_eq_true (by kernel_rfl)) (by unfold Func.isWrapper; first | (rw [if_pos (by decide +kernel)]; kernel_rfl) | (rw [if_neg (by decide +kernel)]; exact ⟨rfl, rfl⟩))
    (fun os started H enc _ F => by rw [OpenClaim.pre_eq_preRow]; exact unitsOf_lifted os started H enc F)

theorem unitsOf_plain (f : FuncId) (fn : Func) (hf : Tryz.pinned.checked.prog.funcNamed "circa/circalaw23.UnitsOf" = some f) (hfn : Tryz.pinned.checked.prog.funcs[f]? = some fn) :
    true = Tryz.pinned.checked.prog.looks [] ∧ ∀ (j : Nat) t, fn.params[j]? = some t → Tryz.pinned.checked.prog.wantsStandIn t = false := by
  obtain rfl : f = 6 := Option.some.inj ((show Tryz.prog.funcNamed "circa/circalaw23.UnitsOf" = some 6 by kernel_rfl).symm.trans hf) |>.symm
  obtain rfl : fn = Tryz.f6 := (Option.some.inj (Tryz.func6.symm.trans hfn)).symm
  refine ⟨by kernel_rfl, fun j t ht => ?_⟩
  rw [Tryz.params6] at ht
  have hm := Array.mem_of_getElem? ht
  simp only [List.mem_toArray, List.mem_cons, List.not_mem_nil, or_false] at hm
  rcases hm with rfl | rfl
  · exact (show Tryz.prog.wantsStandIn 52 = false by kernel_rfl)
  · exact (show Tryz.prog.wantsStandIn 56 = false by kernel_rfl)

/-- ████ THE CARD ████ -/
theorem unitsOf_card : Rows.UnitsOfCardSaid :=
  Claim7.holds_tied_plain_at .later [] _ _ _ _ unitsOf_said (fun _ h => by cases h) (by kernel_rfl) (fun _ h => by cases h) unitsOf_row_tie rfl ⟨rfl, rfl⟩ (by kernel_rfl) rfl unitsOf_plain (by kernel_rfl)
end Go.Proofs.YtipjmaimjchckaaGreatDoor

