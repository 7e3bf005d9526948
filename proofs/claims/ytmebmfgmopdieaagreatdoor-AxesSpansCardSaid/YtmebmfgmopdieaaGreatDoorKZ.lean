/- AxesSpans is proved: for every input it returns true, and its arguments read as before; the package-level variables that its row lists start as the program's text lays them (the card ties them). -/
import Derived.Test.YtmebmfgmopdieaaGreatDoorAxSp5
import Derived.Test.YtmebmfgmopdieaaGreatDoorKL
import Derived.Test.YtmebmfgmopdieaaGreatDoorKM
import Derived.Test.YtmebmfgmopdieaaGreatDoorKQ
import Derived.Test.YtmebmfgmopdieaaGreatDoorCards
import Derived.Test.YtmebmfgmopdieaaGreatDoorTie
import Derived.Test.YtmebmfgmopdieaaGreatDoorKO
import Derived.Test.YtmebmfgmopdieaaGreatDoorKN
import Derived.SevenTiedAt
import Derived.MakeChecks
/-! AxesSpans is proved: for every input it returns true, and its arguments read as before; the package-level variables that its row lists start as the program's text lays them (the card ties them). -/
set_option linter.unusedSimpArgs false
set_option linter.unusedVariables false
set_option maxRecDepth 100000
namespace Go.Proofs.YtmebmfgmopdieaaGreatDoor
open Go.ChangeShapes Go.WideShapes Go.ChangeAt Go.RowKit

section
variable {H : Type} {enc : TypeId × Value → H} {w : World} {base : Nat} {spare : Nat → Bool} {held : Bool}
theorem cells_f64 : Tryz.prog.cellsOf 27 = 1 := by kernel_rfl
theorem cells_arr4 : Tryz.prog.cellsOf 60 = 4 := by kernel_rfl
theorem trod_flt {k : FloatKind} {t : TypeId} {fuel : Nat} {cs : List Value} {x : DataW H × List MemPlace} (ht : Tryz.prog.underlying t = some (.float k)) (h : DataW.trod enc Tryz.prog w base spare held fuel t cs = some x) :
    ∃ n, cs = [.float k n] ∧ x = (.lit (.float k n), []) ∧ (Lit.float k n).wf = true := by
  cases fuel with
  | zero => simp [DataW.trod] at h
  | succ n =>
    unfold DataW.trod at h
    rw [ht] at h
    split at h <;> simp_all
theorem open_arr4 {r : Reach} {b0 : Nat} {v : Value} {d : DataW H} {ps : List MemPlace} (hv : Value.okWide Tryz.prog w r b0 60 v) (hd : DataW.Trod enc Tryz.prog w base spare held 60 v d ps) :
    ∃ a b c e, v = Ax.av a b c e ∧ d = .agg [.lit (.float .f64 a), .lit (.float .f64 b), .lit (.float .f64 c), .lit (.float .f64 e)] ∧ ps = [] ∧ (Lit.float .f64 a).wf = true ∧ (Lit.float .f64 b).wf = true ∧ (Lit.float .f64 c).wf = true ∧ (Lit.float .f64 e).wf = true := by
  obtain ⟨cs, rfl, hsz, _⟩ : ∃ cs, v = .agg cs ∧ cs.size = Tryz.prog.cellsOf 60 ∧ Row.okWide Tryz.prog w r b0 60 cs := by
    simpa [Value.okWide, Tryz.underlying60] using hv
  rw [cells_arr4] at hsz
  obtain ⟨l⟩ := cs
  match l, hsz with
  | [c0, c1, c2, c3], _ =>
    obtain ⟨fuel, hf⟩ := hd
    obtain ⟨y0, y1, y2, y3, m, hx, hy0, hy1, hy2, hy3⟩ := trod_array4 Tryz.underlying60 cells_f64 hf
    obtain ⟨x0, e0, rfl, w0⟩ := trod_flt Tryz.underlying27 hy0
    obtain ⟨x1, e1, rfl, w1⟩ := trod_flt Tryz.underlying27 hy1
    obtain ⟨x2, e2, rfl, w2⟩ := trod_flt Tryz.underlying27 hy2
    obtain ⟨x3, e3, rfl, w3⟩ := trod_flt Tryz.underlying27 hy3
    simp at e0 e1 e2 e3
    subst e0 e1 e2 e3
    simp only [Prod.mk.injEq] at hx
    exact ⟨x0, x1, x2, x3, rfl, hx.1, hx.2, w0, w1, w2, w3⟩
theorem shut_arr4 {a b c e : Nat} (w0 : (Lit.float .f64 a).wf = true) (w1 : (Lit.float .f64 b).wf = true) (w2 : (Lit.float .f64 c).wf = true) (w3 : (Lit.float .f64 e).wf = true) :
    DataW.Trod enc Tryz.prog w base spare held 60 (Ax.av a b c e) (.agg [.lit (.float .f64 a), .lit (.float .f64 b), .lit (.float .f64 c), .lit (.float .f64 e)]) [] :=
  ⟨2, by simp [DataW.trod, Ax.av, Value.cells, Tryz.underlying60, Tryz.underlying27, cells_arr4, cells_f64, w0, w1, w2, w3, show List.range 4 = [0, 1, 2, 3] from rfl]⟩
end


set_option maxRecDepth 100000 in
theorem axesSpans_contract (H : Type) (enc : TypeId × Value → H) (W : World) (base : Nat) (args : Array Value) (ds gs : List (DataW H)) (before : List MemPlace)
    (hval : ∀ (j : Nat) t v, Tryz.f6.params[j]? = some t → args[j]? = some v → Value.okWide Tryz.prog W .any base t v)
    (hW : DataW.Whole enc Tryz.prog Tryz.f6.params.toList Rows.axesSpansSpec.vars false W args.toList ds gs before) (hL : laidMetH Tryz.prog Rows.axesSpansRow.laid W) :
    Calls Tryz.prog 6 args W fun e W' => ∃ v, e = .returned v ∧ Rows.axesSpansSpec.post enc Tryz.prog Tryz.f6 false true false false W args v W' := by
  have hW' := hW
  obtain ⟨p, q, hA0, hV, rfl, hfz, hnd⟩ := hW
  have hA : DataW.TrodAll enc Tryz.prog W 0 (fun _ => true) true Tryz.f6.params.toList args.toList ds p := hA0
  rw [Tryz.params6] at hA hval
  obtain ⟨v0, d0, rfl, rfl, h0⟩ := trodAll_one hA
  obtain ⟨rfl, rfl⟩ := trodVars_none hV
  obtain ⟨a, b, c, e, rfl, rfl, rfl, w0, w1, w2, w3⟩ := open_arr4 (hval 0 60 v0 rfl rfl) h0
  clear hA0
  simp only [List.append_nil] at hW'
  have hLm : laidMetH Tryz.prog Rows.axesKnownRow.laid W := by
    rw [show Rows.axesSpansRow.laid = Rows.axesKnownRow.laid from by kernel_rfl] at hL
    exact hL
  refine (Ax.spans_any a b c e W (wf_f64 w0) (wf_f64 w1) (wf_f64 w2) (wf_f64 w3) (fun W2 hb => Ev.lives_any hLm hb)).mono fun e W' ⟨he, hg⟩ => ?_
  subst he
  exact ⟨_, rfl, _, _, _, [], [], [], hW', trodAll_mk1 (shut_bool Tryz.underlying4 true), trodAll_mk1 (shut_arr4 w0 w1 w2 w3), rfl, hg.frame _, fun h => by cases h⟩

theorem axesSpans_reads (os : Os) {H : Type} (enc : TypeId × Value → H) : ∃ places, DataW.whole enc Tryz.prog ((Un.laidWorld os).forCall (fun _ _ => 0) ⟨#[], #[Ax.av 0 0 0 0], []⟩).memory Tryz.f6.params.toList Rows.axesSpansSpec.vars false #[Ax.av 0 0 0 0].toList 8 = some ([.agg [.lit (.float .f64 0), .lit (.float .f64 0), .lit (.float .f64 0), .lit (.float .f64 0)]], [], places) :=
  ⟨[], by kernel_rfl⟩

theorem axesSpans_met (os : Os) (args : Array Value) : laidMetH Tryz.prog Rows.axesSpansRow.laid ((Un.laidWorld os).forCall (fun _ _ => 0) ⟨#[], args, []⟩).memory := by
  rw [show Rows.axesSpansRow.laid = Rows.axesKnownRow.laid from by kernel_rfl]
  exact Un.laid_met os args

set_option maxRecDepth 100000 in
theorem axesSpans_lifted (os : Os) (started : os.Started) (H : Type) (enc : TypeId × Value → H) (F : Stop.Interp) :
    ReturnsInHanded {} Tryz.checked os 6 .any ((OpenSpec.ofChange Rows.axesSpansSpec).preRow enc Tryz.prog Tryz.f6 Rows.axesSpansRow.domain false Rows.axesSpansRow.laid) (((OpenSpec.ofChange Rows.axesSpansSpec).at F).post enc Tryz.prog Tryz.f6 false true false false) := by
  obtain ⟨places, hx⟩ := axesSpans_reads os enc
  refine returnsInHanded_of_row (C := Tryz.checked) (s := OpenSpec.ofChange Rows.axesSpansSpec) Un.own started (by kernel_rfl) Tryz.func6
    (row_witness (enc := enc) (C := Tryz.checked) (Un.laidWorld os) #[Ax.av 0 0 0 0] rfl (by kernel_rfl) (by kernel_rfl) (by kernel_rfl)
      (OpenSpec.preRow_of_cond 8 hx (by kernel_rfl) (fun k hk => by cases hk) (by kernel_rfl) (axesSpans_met os _))) ?_
  intro W base args ds gs before hval hW _ _ _ hL _ _
  exact axesSpans_contract H enc W base args ds gs before hval hW hL

theorem axesSpans_said : Rows.AxesSpansSaid :=
  OpenClaim.holds_of_cond 6 Tryz.f6 rfl rfl rfl rfl rfl rfl rfl ⟨rfl, rfl, rfl, rfl, rfl⟩ rfl rfl rfl rfl rfl (by kernel_rfl) Tryz.func6 FactsAxesSpans.joined
    (of_decide_eq_true (by kernel_rfl)) (by unfold Func.isWrapper; first | (rw [if_pos (by decide +kernel)]; kernel_rfl) | (rw [if_neg (by decide +kernel)]; exact ⟨rfl, rfl⟩))
    (fun os started H enc _ F => by rw [OpenClaim.pre_eq_preRow]; exact axesSpans_lifted os started H enc F)

theorem axesSpans_plain (f : FuncId) (fn : Func) (hf : Tryz.pinned.checked.prog.funcNamed "circa/circalaw36.AxesSpans" = some f) (hfn : Tryz.pinned.checked.prog.funcs[f]? = some fn) :
    true = Tryz.pinned.checked.prog.looks [] ∧ ∀ (j : Nat) t, fn.params[j]? = some t → Tryz.pinned.checked.prog.wantsStandIn t = false := by
  obtain rfl : f = 6 := Option.some.inj ((show Tryz.prog.funcNamed "circa/circalaw36.AxesSpans" = some 6 by kernel_rfl).symm.trans hf) |>.symm
  obtain rfl : fn = Tryz.f6 := (Option.some.inj (Tryz.func6.symm.trans hfn)).symm
  refine ⟨by kernel_rfl, fun j t ht => ?_⟩
  rw [Tryz.params6] at ht
  have hm := Array.mem_of_getElem? ht
  simp only [List.mem_toArray, List.mem_cons, List.not_mem_nil, or_false] at hm
  rcases hm with rfl
  · exact (show Tryz.prog.wantsStandIn 60 = false by kernel_rfl)

/-- ████ THE CARD ████ -/
theorem axesSpans_card : Rows.AxesSpansCardSaid :=
  Claim7.holds_tied_plain_at .later [] _ _ _ _ axesSpans_said (fun _ h => by cases h) (by kernel_rfl) (fun _ h => by cases h) axesSpans_row_tie rfl ⟨rfl, rfl⟩ (by kernel_rfl) rfl axesSpans_plain FactsAxesSpans.goes
end Go.Proofs.YtmebmfgmopdieaaGreatDoor

