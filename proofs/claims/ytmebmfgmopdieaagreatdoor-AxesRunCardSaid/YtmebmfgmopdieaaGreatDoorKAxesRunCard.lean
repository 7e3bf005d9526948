/- AxesRun is proved: for every input it returns true, and its arguments read as before; the package-level variables that its row lists start as the program's text lays them (the card ties them). -/
import Derived.Test.YtmebmfgmopdieaaGreatDoorFD
import Derived.Test.YtmebmfgmopdieaaGreatDoorKLivesRun
import Derived.Test.YtmebmfgmopdieaaGreatDoorKLaid
import Derived.Test.YtmebmfgmopdieaaGreatDoorKFactsAxesRun
import Derived.Test.YtmebmfgmopdieaaGreatDoorCards
import Derived.Test.YtmebmfgmopdieaaGreatDoorTie
import Derived.Test.YtmebmfgmopdieaaGreatDoorKCommon
import Derived.Test.YtmebmfgmopdieaaGreatDoorKWit
import Derived.SevenTiedAt
import Derived.MakeChecks
/-! AxesRun is proved: for every input it returns true, and its arguments read as before; the package-level variables that its row lists start as the program's text lays them (the card ties them). -/
set_option linter.unusedSimpArgs false
set_option linter.unusedVariables false
set_option maxRecDepth 100000
namespace Go.Proofs.YtmebmfgmopdieaaGreatDoor
open Go.ChangeShapes Go.WideShapes Go.ChangeAt Go.RowKit

theorem wf_i8 {n : Int} (h : (Lit.int .i8 n).wf = true) : -128 ≤ n ∧ n < 128 := by
  have m1 : IntKind.i8.min = -128 := by decide
  have m2 : IntKind.i8.max = 127 := by decide
  simp [Lit.wf, m1, m2] at h; omega
section
variable {H : Type} {enc : TypeId × Value → H} {w : World} {base : Nat} {spare : Nat → Bool} {held : Bool}
theorem cells_run : Tryz.prog.cellsOf 26 = 4 := by kernel_rfl
theorem cells_end : Tryz.prog.cellsOf 24 = 2 := by kernel_rfl
theorem cells_i8 : Tryz.prog.cellsOf 22 = 1 := by kernel_rfl
theorem cells_i64 : Tryz.prog.cellsOf 2 = 1 := by kernel_rfl
theorem open_end {fuel : Nat} {c0 c1 : Value} {x : DataW H × List MemPlace} (h : DataW.trod enc Tryz.prog w base spare held fuel 24 [c0, c1] = some x) :
    ∃ a lo, c0 = .int .i8 a ∧ c1 = .int .i64 lo ∧ x = (.agg [.lit (.int .i8 a), .lit (.int .i64 lo)], []) ∧ (Lit.int .i8 a).wf = true ∧ (Lit.int .i64 lo).wf = true := by
  obtain ⟨y0, y1, n, rfl, _, h0, h1⟩ := trod_struct2 Tryz.underlying24 h
  rw [cells_i8] at h0
  rw [cells_i64] at h1
  obtain ⟨a, e0, rfl, wa⟩ := DataW.trod_int Tryz.underlying22 h0
  obtain ⟨b, e1, rfl, wb⟩ := DataW.trod_int Tryz.underlying2 h1
  have e0 : c0 = .int .i8 a := by simpa using e0
  have e1 : c1 = .int .i64 b := by simpa using e1
  exact ⟨a, b, e0, e1, rfl, wa, wb⟩
theorem open_run {r : Reach} {b0 : Nat} {v : Value} {d : DataW H} {ps : List MemPlace} (hv : Value.okWide Tryz.prog w r b0 26 v) (hd : DataW.Trod enc Tryz.prog w base spare held 26 v d ps) :
    ∃ a lo b hi, v = Ax.rv a lo b hi ∧ d = .agg [.agg [.lit (.int .i8 a), .lit (.int .i64 lo)], .agg [.lit (.int .i8 b), .lit (.int .i64 hi)]] ∧ ps = [] ∧ (Lit.int .i8 a).wf = true ∧ (Lit.int .i64 lo).wf = true ∧ (Lit.int .i8 b).wf = true ∧ (Lit.int .i64 hi).wf = true := by
  obtain ⟨cs, rfl, hsz⟩ := okWide_struct Tryz.underlying26 hv
  obtain ⟨fuel, hf⟩ := hd
  rw [cells_run] at hsz
  obtain ⟨l⟩ := cs
  match l, hsz with
  | [c0, c1, c2, c3], _ =>
    obtain ⟨y0, y1, n, hx, _, h0, h1⟩ := trod_struct2 Tryz.underlying26 hf
    rw [cells_end] at h0 h1
    obtain ⟨a, lo, rfl, rfl, rfl, wa, wlo⟩ := open_end (c0 := c0) (c1 := c1) h0
    obtain ⟨b, hi, rfl, rfl, rfl, wb, whi⟩ := open_end (c0 := c2) (c1 := c3) h1
    simp only [Prod.mk.injEq] at hx
    exact ⟨a, lo, b, hi, rfl, hx.1, hx.2, wa, wlo, wb, whi⟩
theorem shut_end {a lo : Int} (m : Nat) (wa : (Lit.int .i8 a).wf = true) (wlo : (Lit.int .i64 lo).wf = true) : DataW.trod enc Tryz.prog w base spare held (m + 2) 24 [.int .i8 a, .int .i64 lo] = some (.agg [.lit (.int .i8 a), .lit (.int .i64 lo)], []) :=
  trod_struct2_mk (y0 := (.lit (.int .i8 a), [])) (y1 := (.lit (.int .i64 lo), [])) Tryz.underlying24 (by rw [cells_end]; rfl) (by rw [cells_i8]; exact trod_int_mk m Tryz.underlying22 wa) (by rw [cells_i64]; exact trod_int_mk m Tryz.underlying2 wlo)
theorem shut_run {a lo b hi : Int} (wa : (Lit.int .i8 a).wf = true) (wlo : (Lit.int .i64 lo).wf = true) (wb : (Lit.int .i8 b).wf = true) (whi : (Lit.int .i64 hi).wf = true) :
    DataW.Trod enc Tryz.prog w base spare held 26 (Ax.rv a lo b hi) (.agg [.agg [.lit (.int .i8 a), .lit (.int .i64 lo)], .agg [.lit (.int .i8 b), .lit (.int .i64 hi)]]) [] :=
  ⟨3, trod_struct2_mk (y0 := (.agg [.lit (.int .i8 a), .lit (.int .i64 lo)], [])) (y1 := (.agg [.lit (.int .i8 b), .lit (.int .i64 hi)], [])) Tryz.underlying26 (by rw [cells_run]; rfl) (by rw [cells_end]; exact shut_end 0 wa wlo) (by rw [cells_end]; exact shut_end 0 wb whi)⟩
end


set_option maxRecDepth 100000 in
theorem axesRun_contract (H : Type) (enc : TypeId × Value → H) (W : World) (base : Nat) (args : Array Value) (ds gs : List (DataW H)) (before : List MemPlace)
    (hval : ∀ (j : Nat) t v, Tryz.f3.params[j]? = some t → args[j]? = some v → Value.okWide Tryz.prog W .any base t v)
    (hW : DataW.Whole enc Tryz.prog Tryz.f3.params.toList Rows.axesRunSpec.vars false W args.toList ds gs before) (hL : laidMetH Tryz.prog Rows.axesRunRow.laid W) :
    Calls Tryz.prog 3 args W fun e W' => ∃ v, e = .returned v ∧ Rows.axesRunSpec.post enc Tryz.prog Tryz.f3 false true false false W args v W' := by
  have hW' := hW
  obtain ⟨p, q, hA0, hV, rfl, hfz, hnd⟩ := hW
  have hA : DataW.TrodAll enc Tryz.prog W 0 (fun _ => true) true Tryz.f3.params.toList args.toList ds p := hA0
  rw [Tryz.params3] at hA hval
  obtain ⟨v0, d0, rfl, rfl, h0⟩ := trodAll_one hA
  obtain ⟨rfl, rfl⟩ := trodVars_none hV
  obtain ⟨a, lo, b, hi, rfl, rfl, rfl, wa, wlo, wb, whi⟩ := open_run (hval 0 26 v0 rfl rfl) h0
  clear hA0
  simp only [List.append_nil] at hW'
  have hLm : laidMetH Tryz.prog Rows.axesKnownRow.laid W := by
    rw [show Rows.axesRunRow.laid = Rows.axesKnownRow.laid from by kernel_rfl] at hL
    exact hL
  refine (Ax.lawRun_any a lo b hi W (wf_i8 wa).1 (wf_i8 wa).2 (wf_i8 wb).1 (wf_i8 wb).2 (wf_i64 wlo).1 (wf_i64 wlo).2 (wf_i64 whi).1 (wf_i64 whi).2 (fun W2 hb => Ev.lives_any hLm hb)).mono fun e W' ⟨he, hg⟩ => ?_
  subst he
  exact ⟨_, rfl, _, _, _, [], [], [], hW', trodAll_mk1 (shut_bool Tryz.underlying4 true), trodAll_mk1 (shut_run wa wlo wb whi), rfl, hg.frame _, fun h => by cases h⟩

theorem axesRun_reads (os : Os) {H : Type} (enc : TypeId × Value → H) : ∃ places, DataW.whole enc Tryz.prog ((Un.laidWorld os).forCall (fun _ _ => 0) ⟨#[], #[Ax.rv 0 0 0 0], []⟩).memory Tryz.f3.params.toList Rows.axesRunSpec.vars false #[Ax.rv 0 0 0 0].toList 8 = some ([.agg [.agg [.lit (.int .i8 0), .lit (.int .i64 0)], .agg [.lit (.int .i8 0), .lit (.int .i64 0)]]], [], places) :=
  ⟨[], by kernel_rfl⟩

theorem axesRun_met (os : Os) (args : Array Value) : laidMetH Tryz.prog Rows.axesRunRow.laid ((Un.laidWorld os).forCall (fun _ _ => 0) ⟨#[], args, []⟩).memory := by
  rw [show Rows.axesRunRow.laid = Rows.axesKnownRow.laid from by kernel_rfl]
  exact Un.laid_met os args

set_option maxRecDepth 100000 in
theorem axesRun_lifted (os : Os) (started : os.Started) (H : Type) (enc : TypeId × Value → H) (F : Stop.Interp) :
    ReturnsInHanded {} Tryz.checked os 3 .any ((OpenSpec.ofChange Rows.axesRunSpec).preRow enc Tryz.prog Tryz.f3 Rows.axesRunRow.domain false Rows.axesRunRow.laid) (((OpenSpec.ofChange Rows.axesRunSpec).at F).post enc Tryz.prog Tryz.f3 false true false false) := by
  obtain ⟨places, hx⟩ := axesRun_reads os enc
  refine returnsInHanded_of_row (C := Tryz.checked) (s := OpenSpec.ofChange Rows.axesRunSpec) Un.own started (by kernel_rfl) Tryz.func3
    (row_witness (enc := enc) (C := Tryz.checked) (Un.laidWorld os) #[Ax.rv 0 0 0 0] rfl (by kernel_rfl) (by kernel_rfl) (by kernel_rfl)
      (OpenSpec.preRow_of_cond 8 hx (by kernel_rfl) (fun k hk => by cases hk) (by kernel_rfl) (axesRun_met os _))) ?_
  intro W base args ds gs before hval hW _ _ _ hL _ _
  exact axesRun_contract H enc W base args ds gs before hval hW hL

theorem axesRun_said : Rows.AxesRunSaid :=
  OpenClaim.holds_of_cond 3 Tryz.f3 rfl rfl rfl rfl rfl rfl rfl ⟨rfl, rfl, rfl, rfl, rfl⟩ rfl rfl rfl rfl rfl (by kernel_rfl) Tryz.func3 FactsAxesRun.joined
    (of_decide_eq_true (by kernel_rfl)) (by unfold Func.isWrapper; first | (rw [if_pos (by decide +kernel)]; kernel_rfl) | (rw [if_neg (by decide +kernel)]; exact ⟨rfl, rfl⟩))
    (fun os started H enc _ F => by rw [OpenClaim.pre_eq_preRow]; exact axesRun_lifted os started H enc F)

theorem axesRun_plain (f : FuncId) (fn : Func) (hf : Tryz.pinned.checked.prog.funcNamed "circa/circalaw36.AxesRun" = some f) (hfn : Tryz.pinned.checked.prog.funcs[f]? = some fn) :
    true = Tryz.pinned.checked.prog.looks [] ∧ ∀ (j : Nat) t, fn.params[j]? = some t → Tryz.pinned.checked.prog.wantsStandIn t = false := by
  obtain rfl : f = 3 := Option.some.inj ((show Tryz.prog.funcNamed "circa/circalaw36.AxesRun" = some 3 by kernel_rfl).symm.trans hf) |>.symm
  obtain rfl : fn = Tryz.f3 := (Option.some.inj (Tryz.func3.symm.trans hfn)).symm
  refine ⟨by kernel_rfl, fun j t ht => ?_⟩
  rw [Tryz.params3] at ht
  have hm := Array.mem_of_getElem? ht
  simp only [List.mem_toArray, List.mem_cons, List.not_mem_nil, or_false] at hm
  rcases hm with rfl
  · exact (show Tryz.prog.wantsStandIn 26 = false by kernel_rfl)

/-- ████ THE CARD ████ -/
theorem axesRun_card : Rows.AxesRunCardSaid :=
  Claim7.holds_tied_plain_at .later [] _ _ _ _ axesRun_said (fun _ h => by cases h) (by kernel_rfl) (fun _ h => by cases h) axesRun_row_tie rfl ⟨rfl, rfl⟩ (by kernel_rfl) rfl axesRun_plain FactsAxesRun.goes
end Go.Proofs.YtmebmfgmopdieaaGreatDoor

