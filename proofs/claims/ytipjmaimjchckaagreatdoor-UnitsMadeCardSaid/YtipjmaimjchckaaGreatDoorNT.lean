/- An argument of circaref's chapter 15 (a drawn date's seed), opened and shut. -/
import Derived.Test.YtipjmaimjchckaaGreatDoorNS
import Derived.Test.YtipjmaimjchckaaGreatDoorNU
import Derived.Test.YtipjmaimjchckaaGreatDoorNW
import Derived.Test.YtipjmaimjchckaaGreatDoorCards
import Derived.Test.YtipjmaimjchckaaGreatDoorTie
import Derived.SevenTiedAt
import Derived.MakeChecks
/-! An argument of circaref's chapter 15 (a drawn date's seed), opened and shut. -/
set_option linter.unusedSimpArgs false
set_option linter.unusedVariables false
set_option maxRecDepth 100000
namespace Go.Proofs.YtipjmaimjchckaaGreatDoor
open Go.ChangeShapes Go.WideShapes Go.ChangeAt Go.RowKit
namespace Bk
open Un
section
variable {H : Type} {enc : TypeId × Value → H} {w : World} {base : Nat} {spare : Nat → Bool} {held : Bool}
theorem nat_u8 {x : Int} (h : (Lit.int .u8 x).wf = true) : ∃ n : Nat, x = n ∧ n < 256 := by
  have h1 := (bounds_u8 h).1; have h2 := (bounds_u8 h).2
  exact ⟨x.toNat, by omega, by omega⟩
theorem nat_u16 {x : Int} (h : (Lit.int .u16 x).wf = true) : ∃ n : Nat, x = n ∧ n < 65536 := by
  have h1 := (bounds_u16 h).1; have h2 := (bounds_u16 h).2
  exact ⟨x.toNat, by omega, by omega⟩
theorem wf8 {n : Nat} (h : n < 256) : (Lit.int .u8 (n : Int)).wf = true := by
  simp [Lit.wf, IntKind.min, IntKind.max, IntKind.signed, IntKind.bits]; omega
theorem wf16 {n : Nat} (h : n < 65536) : (Lit.int .u16 (n : Int)).wf = true := by
  simp [Lit.wf, IntKind.min, IntKind.max, IntKind.signed, IntKind.bits]; omega
theorem trod_array2 {P : Program} {t e : TypeId} {fuel : Nat} {c0 c1 : Value} {x : DataW H × List MemPlace} (ht : P.underlying t = some (.array 2 e)) (hce : P.cellsOf e = 1)
    (h : DataW.trod enc P w base spare held fuel t [c0, c1] = some x) :
    ∃ y0 y1 n, x = (.agg [y0.1, y1.1], y0.2 ++ y1.2) ∧ DataW.trod enc P w base spare held n e [c0] = some y0 ∧ DataW.trod enc P w base spare held n e [c1] = some y1 := by
  obtain ⟨xs, n, _, rfl, _, hlen, hf⟩ := DataW.trod_array ht h
  match xs, hlen with
  | [y0, y1], _ => exact ⟨y0, y1, n, by simp, by simpa [hce] using hf 0 (by decide), by simpa [hce] using hf 1 (by decide)⟩
theorem cells_d : Tryz.prog.cellsOf 70 = 10 := by kernel_rfl
theorem cells_y : Tryz.prog.cellsOf 68 = 5 := by kernel_rfl
theorem cells_two8 : Tryz.prog.cellsOf 66 = 2 := by kernel_rfl
theorem cells_u16 : Tryz.prog.cellsOf 65 = 1 := by kernel_rfl
/-- A seed as a datum. -/
def ddD (f : Nat) (neg : Bool) (n z0 z1 mo da k0 k1 k2 : Nat) : DataW H := .agg [.agg [.lit (.int .u8 f), .lit (.bool neg), .lit (.int .u16 n), .agg [.lit (.int .u8 z0), .lit (.int .u8 z1)]], .lit (.int .u8 mo), .lit (.int .u8 da), .agg [.lit (.int .u8 k0), .lit (.int .u8 k1), .lit (.int .u8 k2)]]
def ddV (f : Nat) (neg : Bool) (n z0 z1 mo da k0 k1 k2 : Nat) : Value := .agg (ddl f neg n z0 z1 mo da k0 k1 k2).toArray
theorem open_d {r : Reach} {b0 : Nat} {v : Value} {x : DataW H} {ps : List MemPlace} (hv : Value.okWide Tryz.prog w r b0 70 v) (hd : DataW.Trod enc Tryz.prog w base spare held 70 v x ps) :
    ∃ (f : Nat) (neg : Bool) (n z0 z1 mo da k0 k1 k2 : Nat), v = ddV f neg n z0 z1 mo da k0 k1 k2 ∧ x = ddD f neg n z0 z1 mo da k0 k1 k2 ∧ ps = [] ∧
      f < 256 ∧ n < 65536 ∧ z0 < 256 ∧ z1 < 256 ∧ mo < 256 ∧ da < 256 ∧ k0 < 256 ∧ k1 < 256 ∧ k2 < 256 := by
  obtain ⟨cs, rfl, hsz⟩ := okWide_struct Tryz.underlying70 hv
  obtain ⟨fuel, hf⟩ := hd
  rw [cells_d] at hsz
  obtain ⟨l⟩ := cs
  match l, hsz with
  | [c0, c1, c2, c3, c4, c5, c6, c7, c8, c9], _ =>
    obtain ⟨y0, y1, y2, y3, n, hx, _, h0, h1, h2, h3⟩ := Go.Joins.trod_struct4 Tryz.underlying70 hf
    rw [cells_y] at h0
    rw [cells_u8] at h1 h2
    rw [cells_marks] at h3
    obtain ⟨i5, e5, rfl, w5⟩ := DataW.trod_int Tryz.underlying5 h1
    obtain ⟨i6, e6, rfl, w6⟩ := DataW.trod_int Tryz.underlying5 h2
    obtain ⟨z0, z1, z2, z3, n2, rfl, _, g0, g1, g2, g3⟩ := Go.Joins.trod_struct4 Tryz.underlying68 h0
    rw [cells_u8] at g0
    rw [cells_bool] at g1
    rw [cells_u16] at g2
    rw [cells_two8] at g3
    obtain ⟨i0, e0, rfl, w0⟩ := DataW.trod_int Tryz.underlying5 g0
    obtain ⟨b1, e1, rfl⟩ := DataW.trod_bool Tryz.underlying4 g1
    obtain ⟨i2, e2, rfl, w2⟩ := DataW.trod_int Tryz.underlying65 g2
    obtain ⟨v0, v1, n4, rfl, j0, j1⟩ := trod_array2 (c0 := c3) (c1 := c4) Tryz.underlying66 cells_u8 g3
    obtain ⟨i3, e3, rfl, w3⟩ := DataW.trod_int Tryz.underlying5 j0
    obtain ⟨i4, e4, rfl, w4⟩ := DataW.trod_int Tryz.underlying5 j1
    obtain ⟨u0, u1, u2, n3, rfl, k0, k1, k2⟩ := trod_array3 (c0 := c7) (c1 := c8) (c2 := c9) Tryz.underlying50 cells_u8 h3
    obtain ⟨i7, e7, rfl, w7⟩ := DataW.trod_int Tryz.underlying5 k0
    obtain ⟨i8, e8, rfl, w8⟩ := DataW.trod_int Tryz.underlying5 k1
    obtain ⟨i9, e9, rfl, w9⟩ := DataW.trod_int Tryz.underlying5 k2
    have f0 : c0 = .int .u8 i0 := by simpa [Value.cells] using e0
    have f1 : c1 = .bool b1 := by simpa [Value.cells] using e1
    have f2 : c2 = .int .u16 i2 := by simpa [Value.cells] using e2
    have f3 : c3 = .int .u8 i3 := by simpa [Value.cells] using e3
    have f4 : c4 = .int .u8 i4 := by simpa [Value.cells] using e4
    have f5 : c5 = .int .u8 i5 := by simpa [Value.cells] using e5
    have f6 : c6 = .int .u8 i6 := by simpa [Value.cells] using e6
    have f7 : c7 = .int .u8 i7 := by simpa [Value.cells] using e7
    have f8 : c8 = .int .u8 i8 := by simpa [Value.cells] using e8
    have f9 : c9 = .int .u8 i9 := by simpa [Value.cells] using e9
    subst f0 f1 f2 f3 f4 f5 f6 f7 f8 f9
    simp only [Prod.mk.injEq] at hx
    obtain ⟨n0, rfl, b0⟩ := nat_u8 w0
    obtain ⟨n2, rfl, b2⟩ := nat_u16 w2
    obtain ⟨n3, rfl, b3⟩ := nat_u8 w3
    obtain ⟨n4, rfl, b4⟩ := nat_u8 w4
    obtain ⟨n5, rfl, b5⟩ := nat_u8 w5
    obtain ⟨n6, rfl, b6⟩ := nat_u8 w6
    obtain ⟨n7, rfl, b7⟩ := nat_u8 w7
    obtain ⟨n8, rfl, b8⟩ := nat_u8 w8
    obtain ⟨n9, rfl, b9⟩ := nat_u8 w9
    exact ⟨n0, b1, n2, n3, n4, n5, n6, n7, n8, n9, rfl, hx.1, hx.2, b0, b2, b3, b4, b5, b6, b7, b8, b9⟩
theorem shut_d {f : Nat} {neg : Bool} {n z0 z1 mo da k0 k1 k2 : Nat} (b0 : f < 256) (b2 : n < 65536) (b3 : z0 < 256) (b4 : z1 < 256) (b5 : mo < 256) (b6 : da < 256) (b7 : k0 < 256) (b8 : k1 < 256) (b9 : k2 < 256) :
    DataW.Trod enc Tryz.prog w base spare held 70 (ddV f neg n z0 z1 mo da k0 k1 k2) (ddD f neg n z0 z1 mo da k0 k1 k2) [] :=
  ⟨4, by simp [DataW.trod, ddV, ddl, ddD, Value.cells, Tryz.underlying70, Tryz.underlying68, Tryz.underlying50, Tryz.underlying66, Tryz.underlying4, Tryz.underlying65, Tryz.underlying5, cells_d, cells_y, cells_marks, cells_two8, cells_bool, cells_u16, cells_u8, wf8 b0, wf16 b2, wf8 b3, wf8 b4, wf8 b5, wf8 b6, wf8 b7, wf8 b8, wf8 b9, show List.range 3 = [0, 1, 2] from rfl, show List.range 2 = [0, 1] from rfl]⟩
theorem open_u16 {r : Reach} {b0 : Nat} {v : Value} {x : DataW H} {ps : List MemPlace} (hv : Value.okWide Tryz.prog w r b0 65 v) (hd : DataW.Trod enc Tryz.prog w base spare held 65 v x ps) :
    ∃ n : Nat, v = .int .u16 n ∧ x = .lit (.int .u16 n) ∧ ps = [] ∧ (Lit.int .u16 (n : Int)).wf = true ∧ n < 65536 := by
  obtain ⟨i, rfl, rfl, rfl, wi⟩ := open_int Tryz.underlying65 hv hd
  obtain ⟨n, rfl, b⟩ := nat_u16 wi
  exact ⟨n, rfl, rfl, rfl, wi, b⟩
end
end Bk
end Go.Proofs.YtipjmaimjchckaaGreatDoor

/-! UnitsMade is proved: for every input it returns true, and its arguments read as before; the package-level variables that its row lists start as the program's text lays them (the card ties them). -/
set_option linter.unusedSimpArgs false
set_option linter.unusedVariables false
set_option maxRecDepth 100000
namespace Go.Proofs.YtipjmaimjchckaaGreatDoor
open Go.ChangeShapes Go.WideShapes Go.ChangeAt Go.RowKit


set_option maxRecDepth 100000 in
theorem unitsMade_contract (H : Type) (enc : TypeId × Value → H) (W : World) (base : Nat) (args : Array Value) (ds gs : List (DataW H)) (before : List MemPlace)
    (hval : ∀ (j : Nat) t v, Tryz.f7.params[j]? = some t → args[j]? = some v → Value.okWide Tryz.prog W .any base t v)
    (hW : DataW.Whole enc Tryz.prog Tryz.f7.params.toList Rows.unitsMadeSpec.vars false W args.toList ds gs before) (hL : laidMetH Tryz.prog Rows.unitsMadeRow.laid W) :
    Calls Tryz.prog 7 args W fun e W' => ∃ v, e = .returned v ∧ Rows.unitsMadeSpec.post enc Tryz.prog Tryz.f7 false true false false W args v W' := by
  have hW' := hW
  obtain ⟨p, q, hA0, hV, rfl, hfz, hnd⟩ := hW
  have hA : DataW.TrodAll enc Tryz.prog W 0 (fun _ => true) true Tryz.f7.params.toList args.toList ds p := hA0
  rw [Tryz.params7] at hA hval
  obtain ⟨v0, v1, d0, d1, p0, p1, rfl, rfl, rfl, h0, h1⟩ := trodAll_two hA
  obtain ⟨rfl, rfl⟩ := trodVars_none hV
  obtain ⟨f, ng, n, z0, z1, mo, da, k0, k1, k2, rfl, rfl, rfl, b0, b2, b3, b4, b5, b6, b7, b8, b9⟩ := Bk.open_d (hval 0 70 v0 rfl rfl) h0
  obtain ⟨nn, rfl, rfl, rfl, wn, bn⟩ := Bk.open_u16 (hval 1 65 v1 rfl rfl) h1
  clear hA0
  simp only [List.append_nil] at hW'
  have hLm : laidMetH Tryz.prog Rows.unitsKnownRow.laid W := by
    rw [show Rows.unitsMadeRow.laid = Rows.unitsKnownRow.laid from by kernel_rfl] at hL
    exact hL
  refine (Bk.lawMade_any f ng n z0 z1 mo da k0 k1 k2 nn W (Bk.wOk_of_laid (Bk.laidP hLm)) (fun W2 hb => Ev.lives_any (Bk.laidP hLm) hb) b0 b2 b3 b4 b5 b6 b7 b8 b9 bn).mono fun e W' ⟨he, hg⟩ => ?_
  subst he
  exact ⟨_, rfl, _, _, _, [], [], [], hW', trodAll_mk1 (shut_bool Tryz.underlying4 true), trodAll_mk2 (Bk.shut_d b0 b2 b3 b4 b5 b6 b7 b8 b9) (shut_int Tryz.underlying65 wn), rfl, hg.frame _, fun h => by cases h⟩

theorem unitsMade_reads (os : Os) {H : Type} (enc : TypeId × Value → H) : ∃ places, DataW.whole enc Tryz.prog ((Un.laidWorld os).forCall (fun _ _ => 0) ⟨#[], #[Bk.ddV 0 false 0 0 0 0 0 0 0 0, .int .u16 0], []⟩).memory Tryz.f7.params.toList Rows.unitsMadeSpec.vars false #[Bk.ddV 0 false 0 0 0 0 0 0 0 0, .int .u16 0].toList 8 = some ([Bk.ddD 0 false 0 0 0 0 0 0 0 0, .lit (.int .u16 0)], [], places) :=
  ⟨[], by kernel_rfl⟩

theorem unitsMade_met (os : Os) (args : Array Value) : laidMetH Tryz.prog Rows.unitsMadeRow.laid ((Un.laidWorld os).forCall (fun _ _ => 0) ⟨#[], args, []⟩).memory := by
  rw [show Rows.unitsMadeRow.laid = Rows.unitsKnownRow.laid from by kernel_rfl]
  exact Bk.laid_metH os args

set_option maxRecDepth 100000 in
theorem unitsMade_lifted (os : Os) (started : os.Started) (H : Type) (enc : TypeId × Value → H) (F : Stop.Interp) :
    ReturnsInHanded {} Tryz.checked os 7 .any ((OpenSpec.ofChange Rows.unitsMadeSpec).preRow enc Tryz.prog Tryz.f7 Rows.unitsMadeRow.domain false Rows.unitsMadeRow.laid) (((OpenSpec.ofChange Rows.unitsMadeSpec).at F).post enc Tryz.prog Tryz.f7 false true false false) := by
  obtain ⟨places, hx⟩ := unitsMade_reads os enc
  refine returnsInHanded_of_row (C := Tryz.checked) (s := OpenSpec.ofChange Rows.unitsMadeSpec) Un.own started (by kernel_rfl) Tryz.func7
    (row_witness (enc := enc) (C := Tryz.checked) (Un.laidWorld os) #[Bk.ddV 0 false 0 0 0 0 0 0 0 0, .int .u16 0] rfl (by kernel_rfl) (by kernel_rfl) (by kernel_rfl)
      (OpenSpec.preRow_of_cond 8 hx (by kernel_rfl) (fun k hk => by cases hk) (by kernel_rfl) (unitsMade_met os _))) ?_
  intro W base args ds gs before hval hW _ _ _ hL _ _
  exact unitsMade_contract H enc W base args ds gs before hval hW hL

theorem unitsMade_said : Rows.UnitsMadeSaid :=
  OpenClaim.holds_of_cond 7 Tryz.f7 rfl rfl rfl rfl rfl rfl rfl ⟨rfl, rfl, rfl, rfl, rfl⟩ rfl rfl rfl rfl rfl (by kernel_rfl) Tryz.func7 (by kernel_rfl)
    (of_decide_eq_true (by kernel_rfl)) (by unfold Func.isWrapper; first | (rw [if_pos (by decide +kernel)]; kernel_rfl) | (rw [if_neg (by decide +kernel)]; exact ⟨rfl, rfl⟩))
    (fun os started H enc _ F => by rw [OpenClaim.pre_eq_preRow]; exact unitsMade_lifted os started H enc F)

theorem unitsMade_plain (f : FuncId) (fn : Func) (hf : Tryz.pinned.checked.prog.funcNamed "circa/circalaw23.UnitsMade" = some f) (hfn : Tryz.pinned.checked.prog.funcs[f]? = some fn) :
    true = Tryz.pinned.checked.prog.looks [] ∧ ∀ (j : Nat) t, fn.params[j]? = some t → Tryz.pinned.checked.prog.wantsStandIn t = false := by
  obtain rfl : f = 7 := Option.some.inj ((show Tryz.prog.funcNamed "circa/circalaw23.UnitsMade" = some 7 by kernel_rfl).symm.trans hf) |>.symm
  obtain rfl : fn = Tryz.f7 := (Option.some.inj (Tryz.func7.symm.trans hfn)).symm
  refine ⟨by kernel_rfl, fun j t ht => ?_⟩
  rw [Tryz.params7] at ht
  have hm := Array.mem_of_getElem? ht
  simp only [List.mem_toArray, List.mem_cons, List.not_mem_nil, or_false] at hm
  rcases hm with rfl | rfl
  · exact (show Tryz.prog.wantsStandIn 70 = false by kernel_rfl)
  · exact (show Tryz.prog.wantsStandIn 65 = false by kernel_rfl)

/-- ████ THE CARD ████ -/
theorem unitsMade_card : Rows.UnitsMadeCardSaid :=
  Claim7.holds_tied_plain_at .later [] _ _ _ _ unitsMade_said (fun _ h => by cases h) (by kernel_rfl) (fun _ h => by cases h) unitsMade_row_tie rfl ⟨rfl, rfl⟩ (by kernel_rfl) rfl unitsMade_plain (by kernel_rfl)
end Go.Proofs.YtipjmaimjchckaaGreatDoor

