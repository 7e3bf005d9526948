/- SuresCompare is proved: for every input it returns true, and its arguments read as before; the package-level variables that its row lists start as the program's text lays them (the card ties them). -/
import Derived.Test.YtlglepkdipapiaaGreatDoorKSuresCmp
import Derived.Test.YtlglepkdipapiaaGreatDoorKLivesRun
import Derived.Test.YtlglepkdipapiaaGreatDoorKLaid
import Derived.Test.YtlglepkdipapiaaGreatDoorKFactsSuresCompare
import Derived.Test.YtlglepkdipapiaaGreatDoorCards
import Derived.Test.YtlglepkdipapiaaGreatDoorTie
import Derived.Test.YtlglepkdipapiaaGreatDoorKCommon
import Derived.Test.YtlglepkdipapiaaGreatDoorKWit
import Derived.SevenTiedAt
import Derived.MakeChecks
/-! SuresCompare is proved: for every input it returns true, and its arguments read as before; the package-level variables that its row lists start as the program's text lays them (the card ties them). -/
set_option linter.unusedSimpArgs false
set_option linter.unusedVariables false
set_option maxRecDepth 100000
namespace Go.Proofs.YtlglepkdipapiaaGreatDoor
open Go.ChangeShapes Go.WideShapes Go.ChangeAt Go.RowKit

section
variable {H : Type} {enc : TypeId × Value → H} {w : World} {base : Nat} {spare : Nat → Bool} {held : Bool}
theorem cells_len : Tryz.prog.cellsOf 23 = 2 := by kernel_rfl
theorem cells_b : Tryz.prog.cellsOf 4 = 1 := by kernel_rfl
theorem cells_i64 : Tryz.prog.cellsOf 2 = 1 := by kernel_rfl
theorem open_len {r : Reach} {b0 : Nat} {v : Value} {d : DataW H} {ps : List MemPlace} (hv : Value.okWide Tryz.prog w r b0 23 v) (hd : DataW.Trod enc Tryz.prog w base spare held 23 v d ps) :
    ∃ n i, v = Su.lv n i ∧ d = .agg [.lit (.int .i64 n), .lit (.bool i)] ∧ ps = [] ∧ (Lit.int .i64 n).wf = true := by
  obtain ⟨cs, rfl, hsz⟩ := okWide_struct Tryz.underlying23 hv
  obtain ⟨fuel, hf⟩ := hd
  rw [cells_len] at hsz
  obtain ⟨l⟩ := cs
  match l, hsz with
  | [c0, c1], _ =>
    rw [show (Value.agg ⟨[c0, c1]⟩).cells.toList = [c0, c1] from rfl] at hf
    obtain ⟨y0, y1, n, hx, _, h0, h1⟩ := trod_struct2 Tryz.underlying23 hf
    rw [cells_i64] at h0
    rw [cells_b] at h1
    obtain ⟨a, e0, rfl, wa⟩ := DataW.trod_int Tryz.underlying2 h0
    obtain ⟨b, e1, rfl⟩ := DataW.trod_bool Tryz.underlying4 h1
    have f0 : c0 = .int .i64 a := by simpa using e0
    have f1 : c1 = .bool b := by simpa using e1
    subst f0 f1
    simp only [Prod.mk.injEq] at hx
    exact ⟨a, b, rfl, hx.1, hx.2, wa⟩
theorem trod_bool_mk {t : TypeId} (m : Nat) (ht : Tryz.prog.underlying t = some .bool) (b : Bool) : DataW.trod enc Tryz.prog w base spare held (m + 1) t [.bool b] = some (.lit (.bool b), []) := by
  simp [DataW.trod, ht]
theorem shut_len {n : Int} {i : Bool} (wn : (Lit.int .i64 n).wf = true) :
    DataW.Trod enc Tryz.prog w base spare held 23 (Su.lv n i) (.agg [.lit (.int .i64 n), .lit (.bool i)]) [] :=
  ⟨2, trod_struct2_mk (y0 := (.lit (.int .i64 n), [])) (y1 := (.lit (.bool i), [])) Tryz.underlying23 (by rw [cells_len]; rfl) (by rw [cells_i64]; exact trod_int_mk 0 Tryz.underlying2 wn) (by rw [cells_b]; exact trod_bool_mk 0 Tryz.underlying4 i)⟩
end

set_option maxRecDepth 100000 in
theorem suresCompare_contract (H : Type) (enc : TypeId × Value → H) (W : World) (base : Nat) (args : Array Value) (ds gs : List (DataW H)) (before : List MemPlace)
    (hval : ∀ (j : Nat) t v, Tryz.f3.params[j]? = some t → args[j]? = some v → Value.okWide Tryz.prog W .any base t v)
    (hW : DataW.Whole enc Tryz.prog Tryz.f3.params.toList Rows.suresCompareSpec.vars false W args.toList ds gs before) (hL : laidMetH Tryz.prog Rows.suresCompareRow.laid W) :
    Calls Tryz.prog 3 args W fun e W' => ∃ v, e = .returned v ∧ Rows.suresCompareSpec.post enc Tryz.prog Tryz.f3 false true false false W args v W' := by
  have hW' := hW
  obtain ⟨p, q, hA0, hV, rfl, hfz, hnd⟩ := hW
  have hA : DataW.TrodAll enc Tryz.prog W 0 (fun _ => true) true Tryz.f3.params.toList args.toList ds p := hA0
  rw [Tryz.params3] at hA hval
  obtain ⟨v0, v1, v2, d0, d1, d2, p0, p1, p2, rfl, rfl, rfl, h0, h1, h2⟩ := trodAll_three hA
  obtain ⟨rfl, rfl⟩ := trodVars_none hV
  obtain ⟨n0, i0, rfl, rfl, rfl, w0⟩ := open_len (hval 0 23 v0 rfl rfl) h0
  obtain ⟨n1, i1, rfl, rfl, rfl, w1⟩ := open_len (hval 1 23 v1 rfl rfl) h1
  obtain ⟨n2, i2, rfl, rfl, rfl, w2⟩ := open_len (hval 2 23 v2 rfl rfl) h2
  clear hA0
  simp only [List.append_nil] at hW'
  have hLm : laidMetH Tryz.prog Rows.suresKnownRow.laid W := by
    rw [show Rows.suresCompareRow.laid = Rows.suresKnownRow.laid from by kernel_rfl] at hL
    exact hL
  refine (Su.law_any n0 i0 n1 i1 n2 i2 W (fun W2 hb => Ev.lives_any hLm hb)).mono fun e W' ⟨he, hg⟩ => ?_
  subst he
  exact ⟨_, rfl, _, _, _, [], [], [], hW', trodAll_mk1 (shut_bool Tryz.underlying4 true), trodAll_mk3 (shut_len w0) (shut_len w1) (shut_len w2), rfl, hg.frame _, fun h => by cases h⟩

theorem suresCompare_reads (os : Os) {H : Type} (enc : TypeId × Value → H) : ∃ places, DataW.whole enc Tryz.prog ((Un.laidWorld os).forCall (fun _ _ => 0) ⟨#[], #[Su.lv 0 false, Su.lv 0 false, Su.lv 0 false], []⟩).memory Tryz.f3.params.toList Rows.suresCompareSpec.vars false #[Su.lv 0 false, Su.lv 0 false, Su.lv 0 false].toList 8 = some ([.agg [.lit (.int .i64 0), .lit (.bool false)], .agg [.lit (.int .i64 0), .lit (.bool false)], .agg [.lit (.int .i64 0), .lit (.bool false)]], [], places) :=
  ⟨[], by kernel_rfl⟩

theorem suresCompare_met (os : Os) (args : Array Value) : laidMetH Tryz.prog Rows.suresCompareRow.laid ((Un.laidWorld os).forCall (fun _ _ => 0) ⟨#[], args, []⟩).memory := by
  rw [show Rows.suresCompareRow.laid = Rows.suresKnownRow.laid from by kernel_rfl]
  exact Un.laid_met os args

set_option maxRecDepth 100000 in
theorem suresCompare_lifted (os : Os) (started : os.Started) (H : Type) (enc : TypeId × Value → H) (F : Stop.Interp) :
    ReturnsInHanded {} Tryz.checked os 3 .any ((OpenSpec.ofChange Rows.suresCompareSpec).preRow enc Tryz.prog Tryz.f3 Rows.suresCompareRow.domain false Rows.suresCompareRow.laid) (((OpenSpec.ofChange Rows.suresCompareSpec).at F).post enc Tryz.prog Tryz.f3 false true false false) := by
  obtain ⟨places, hx⟩ := suresCompare_reads os enc
  refine returnsInHanded_of_row (C := Tryz.checked) (s := OpenSpec.ofChange Rows.suresCompareSpec) Un.own started (by kernel_rfl) Tryz.func3
    (row_witness (enc := enc) (C := Tryz.checked) (Un.laidWorld os) #[Su.lv 0 false, Su.lv 0 false, Su.lv 0 false] rfl (by kernel_rfl) (by kernel_rfl) (by kernel_rfl)
      (OpenSpec.preRow_of_cond 8 hx (by kernel_rfl) (fun k hk => by cases hk) (by kernel_rfl) (suresCompare_met os _))) ?_
  intro W base args ds gs before hval hW _ _ _ hL _ _
  exact suresCompare_contract H enc W base args ds gs before hval hW hL

theorem suresCompare_said : Rows.SuresCompareSaid :=
  OpenClaim.holds_of_cond 3 Tryz.f3 rfl rfl rfl rfl rfl rfl rfl ⟨rfl, rfl, rfl, rfl, rfl⟩ rfl rfl rfl rfl rfl (by kernel_rfl) Tryz.func3 FactsSuresCompare.joined
    (of_decide_eq_true (by kernel_rfl)) (by unfold Func.isWrapper; first | (rw [if_pos (by decide +kernel)]; kernel_rfl) | (rw [if_neg (by decide +kernel)]; exact ⟨rfl, rfl⟩))
    (fun os started H enc _ F => by rw [OpenClaim.pre_eq_preRow]; exact suresCompare_lifted os started H enc F)

theorem suresCompare_plain (f : FuncId) (fn : Func) (hf : Tryz.pinned.checked.prog.funcNamed "circa/circalaw37.SuresCompare" = some f) (hfn : Tryz.pinned.checked.prog.funcs[f]? = some fn) :
    true = Tryz.pinned.checked.prog.looks [] ∧ ∀ (j : Nat) t, fn.params[j]? = some t → Tryz.pinned.checked.prog.wantsStandIn t = false := by
  obtain rfl : f = 3 := Option.some.inj ((show Tryz.prog.funcNamed "circa/circalaw37.SuresCompare" = some 3 by kernel_rfl).symm.trans hf) |>.symm
  obtain rfl : fn = Tryz.f3 := (Option.some.inj (Tryz.func3.symm.trans hfn)).symm
  refine ⟨by kernel_rfl, fun j t ht => ?_⟩
  rw [Tryz.params3] at ht
  have hm := Array.mem_of_getElem? ht
  simp only [List.mem_toArray, List.mem_cons, List.not_mem_nil, or_false] at hm
  rcases hm with rfl | rfl | rfl
  · exact (show Tryz.prog.wantsStandIn 23 = false by kernel_rfl)
  · exact (show Tryz.prog.wantsStandIn 23 = false by kernel_rfl)
  · exact (show Tryz.prog.wantsStandIn 23 = false by kernel_rfl)

/-- ████ THE CARD ████ -/
theorem suresCompare_card : Rows.SuresCompareCardSaid :=
  Claim7.holds_tied_plain_at .later [] _ _ _ _ suresCompare_said (fun _ h => by cases h) (by kernel_rfl) (fun _ h => by cases h) suresCompare_row_tie rfl ⟨rfl, rfl⟩ (by kernel_rfl) rfl suresCompare_plain FactsSuresCompare.goes
end Go.Proofs.YtlglepkdipapiaaGreatDoor

