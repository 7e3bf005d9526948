/- What the rows of layer 23 list gives the walks of dates; dates as arguments, opened and shut. -/
import Derived.Test.YtipjmaimjchckaaGreatDoorNQ
import Derived.Test.YtipjmaimjchckaaGreatDoorMF
import Derived.Test.YtipjmaimjchckaaGreatDoorMK
import Derived.Test.YtipjmaimjchckaaGreatDoorCards
import Derived.Test.YtipjmaimjchckaaGreatDoorTie
import Derived.WalkKit
import Derived.ProofKit
import Derived.OpenShut
import Derived.Deep.DeepHandedRow
import Derived.Lib.LaidTab
import Derived.Lib.SmallJoins
import Derived.Laws.IdiomArrays
import Derived.ChangeAlike
import Derived.LaidMore
import Derived.MakeChecks
import Derived.Test.YtipjmaimjchckaaGreatDoorRows
import Derived.Deep.DeepWitnessRef
import Derived.RowKit
/-! What the rows of layer 23 list gives the walks of dates; dates as arguments, opened and shut. -/
set_option linter.unusedSimpArgs false
set_option linter.unusedVariables false
set_option maxRecDepth 100000
namespace Go.Proofs.YtipjmaimjchckaaGreatDoor
open Go.ChangeShapes Go.WideShapes Go.ChangeAt Go.RowKit
namespace Bk
open Un
/-- What the list gives the walks. -/
theorem wOk_of_laid {w : World} (hl : laidMet Tryz.prog Rows.unitsKnownRow.laid w) : WOk w := by
  obtain ⟨ρ, hs⟩ := Ev.start_sat hl (Below.refl _ _) Ev.lay_ok
  rw [Ev.hp_eq] at hs
  have look : ∀ b o, Ev.getH Ev.hp b = some o → (Ev.Hs.mk Ev.hp 14).look [] b = some o := fun b o h => h
  have gl := @Ev.SatH.gl Ev.G0 _ _ _ _ _ hs
  obtain ⟨_, c0, _⟩ := @Ev.SatH.obj Ev.G0 _ _ _ _ _ hs 0 (.ro Ev.k0) (look _ _ (by kernel_rfl))
  obtain ⟨_, c3, _⟩ := @Ev.SatH.obj Ev.G0 _ _ _ _ _ hs 3 (.ro Ev.k3) (look _ _ (by kernel_rfl))
  obtain ⟨_, c13, _⟩ := @Ev.SatH.obj Ev.G0 _ _ _ _ _ hs 13 (.ro Ev.k13) (look _ _ (by kernel_rfl))
  obtain ⟨_, c1, _⟩ := @Ev.SatH.obj Ev.G0 _ _ _ _ _ hs 1 (.ro Ev.k1) (look _ _ (by kernel_rfl))
  obtain ⟨_, c4, _⟩ := @Ev.SatH.obj Ev.G0 _ _ _ _ _ hs 4 (.ro Ev.k4) (look _ _ (by kernel_rfl))
  obtain ⟨_, c5, _⟩ := @Ev.SatH.obj Ev.G0 _ _ _ _ _ hs 5 (.ro Ev.k5) (look _ _ (by kernel_rfl))
  have l0 := gl 0 (by show _ < 11; decide)
  have l3 := gl 3 (by show _ < 11; decide)
  have l1 := gl 1 (by show _ < 11; decide)
  have l4 := gl 4 (by show _ < 11; decide)
  have l5 := gl 5 (by show _ < 11; decide)
  rw [l0.1, l0.2] at c0
  rw [l3.1, l3.2] at c3
  rw [l1.1, l1.2] at c1
  rw [l4.1, l4.2] at c4
  rw [l5.1, l5.2] at c5
  refine ⟨⟨⟨ρ.blk 13, ρ.off 13, c3 0 _ rfl, c13 0 _ rfl, c13 1 _ rfl, c13 2 _ rfl, c13 3 _ rfl, c13 4 _ rfl, c13 5 _ rfl⟩, fun i hi => ?_⟩, fun i hi => ?_, ⟨_, _, c4 0 (.mp 12) rfl⟩, ⟨_, _, c5 0 (.mp 11) rfl⟩⟩
  · have : i = 0 ∨ i = 1 ∨ i = 2 ∨ i = 3 ∨ i = 4 ∨ i = 5 ∨ i = 6 ∨ i = 7 ∨ i = 8 ∨ i = 9 ∨ i = 10 ∨ i = 11 := by omega
    rcases this with rfl | rfl | rfl | rfl | rfl | rfl | rfl | rfl | rfl | rfl | rfl | rfl
    · exact c0 0 (.v (.int .i64 (ml 0))) rfl
    · exact c0 1 (.v (.int .i64 (ml 1))) rfl
    · exact c0 2 (.v (.int .i64 (ml 2))) rfl
    · exact c0 3 (.v (.int .i64 (ml 3))) rfl
    · exact c0 4 (.v (.int .i64 (ml 4))) rfl
    · exact c0 5 (.v (.int .i64 (ml 5))) rfl
    · exact c0 6 (.v (.int .i64 (ml 6))) rfl
    · exact c0 7 (.v (.int .i64 (ml 7))) rfl
    · exact c0 8 (.v (.int .i64 (ml 8))) rfl
    · exact c0 9 (.v (.int .i64 (ml 9))) rfl
    · exact c0 10 (.v (.int .i64 (ml 10))) rfl
    · exact c0 11 (.v (.int .i64 (ml 11))) rfl
  · have : i = 0 ∨ i = 1 ∨ i = 2 ∨ i = 3 ∨ i = 4 ∨ i = 5 ∨ i = 6 ∨ i = 7 ∨ i = 8 ∨ i = 9 ∨ i = 10 ∨ i = 11 ∨ i = 12 ∨ i = 13 ∨ i = 14 ∨ i = 15 ∨ i = 16 ∨ i = 17 ∨ i = 18 ∨ i = 19 ∨ i = 20 ∨ i = 21 ∨ i = 22 ∨ i = 23 ∨ i = 24 ∨ i = 25 ∨ i = 26 ∨ i = 27 ∨ i = 28 ∨ i = 29 ∨ i = 30 ∨ i = 31 ∨ i = 32 ∨ i = 33 ∨ i = 34 ∨ i = 35 ∨ i = 36 ∨ i = 37 ∨ i = 38 ∨ i = 39 ∨ i = 40 ∨ i = 41 := by omega
    rcases this with rfl | rfl | rfl | rfl | rfl | rfl | rfl | rfl | rfl | rfl | rfl | rfl | rfl | rfl | rfl | rfl | rfl | rfl | rfl | rfl | rfl | rfl | rfl | rfl | rfl | rfl | rfl | rfl | rfl | rfl | rfl | rfl | rfl | rfl | rfl | rfl | rfl | rfl | rfl | rfl | rfl | rfl
    · exact c1 0 (.v (.int .i64 (spn 0))) rfl
    · exact c1 1 (.v (.int .i64 (spn 1))) rfl
    · exact c1 2 (.v (.int .i64 (spn 2))) rfl
    · exact c1 3 (.v (.int .i64 (spn 3))) rfl
    · exact c1 4 (.v (.int .i64 (spn 4))) rfl
    · exact c1 5 (.v (.int .i64 (spn 5))) rfl
    · exact c1 6 (.v (.int .i64 (spn 6))) rfl
    · exact c1 7 (.v (.int .i64 (spn 7))) rfl
    · exact c1 8 (.v (.int .i64 (spn 8))) rfl
    · exact c1 9 (.v (.int .i64 (spn 9))) rfl
    · exact c1 10 (.v (.int .i64 (spn 10))) rfl
    · exact c1 11 (.v (.int .i64 (spn 11))) rfl
    · exact c1 12 (.v (.int .i64 (spn 12))) rfl
    · exact c1 13 (.v (.int .i64 (spn 13))) rfl
    · exact c1 14 (.v (.int .i64 (spn 14))) rfl
    · exact c1 15 (.v (.int .i64 (spn 15))) rfl
    · exact c1 16 (.v (.int .i64 (spn 16))) rfl
    · exact c1 17 (.v (.int .i64 (spn 17))) rfl
    · exact c1 18 (.v (.int .i64 (spn 18))) rfl
    · exact c1 19 (.v (.int .i64 (spn 19))) rfl
    · exact c1 20 (.v (.int .i64 (spn 20))) rfl
    · exact c1 21 (.v (.int .i64 (spn 21))) rfl
    · exact c1 22 (.v (.int .i64 (spn 22))) rfl
    · exact c1 23 (.v (.int .i64 (spn 23))) rfl
    · exact c1 24 (.v (.int .i64 (spn 24))) rfl
    · exact c1 25 (.v (.int .i64 (spn 25))) rfl
    · exact c1 26 (.v (.int .i64 (spn 26))) rfl
    · exact c1 27 (.v (.int .i64 (spn 27))) rfl
    · exact c1 28 (.v (.int .i64 (spn 28))) rfl
    · exact c1 29 (.v (.int .i64 (spn 29))) rfl
    · exact c1 30 (.v (.int .i64 (spn 30))) rfl
    · exact c1 31 (.v (.int .i64 (spn 31))) rfl
    · exact c1 32 (.v (.int .i64 (spn 32))) rfl
    · exact c1 33 (.v (.int .i64 (spn 33))) rfl
    · exact c1 34 (.v (.int .i64 (spn 34))) rfl
    · exact c1 35 (.v (.int .i64 (spn 35))) rfl
    · exact c1 36 (.v (.int .i64 (spn 36))) rfl
    · exact c1 37 (.v (.int .i64 (spn 37))) rfl
    · exact c1 38 (.v (.int .i64 (spn 38))) rfl
    · exact c1 39 (.v (.int .i64 (spn 39))) rfl
    · exact c1 40 (.v (.int .i64 (spn 40))) rfl
    · exact c1 41 (.v (.int .i64 (spn 41))) rfl

section
variable {H : Type} {enc : TypeId × Value → H} {w : World} {base : Nat} {spare : Nat → Bool} {held : Bool}
theorem trod_struct5 {P : Program} {t : TypeId} {f0 f1 f2 f3 f4 : Field} {fuel : Nat} {cs : List Value} {x : DataW H × List MemPlace} (ht : P.underlying t = some (.struct #[f0, f1, f2, f3, f4])) (h : DataW.trod enc P w base spare held fuel t cs = some x) :
    ∃ y0 y1 y2 y3 y4 n, x = (.agg [y0.1, y1.1, y2.1, y3.1, y4.1], y0.2 ++ (y1.2 ++ (y2.2 ++ (y3.2 ++ y4.2)))) ∧ cs.length = P.cellsOf t ∧ DataW.trod enc P w base spare held n f0.type ((cs.drop f0.offset).take (P.cellsOf f0.type)) = some y0 ∧
      DataW.trod enc P w base spare held n f1.type ((cs.drop f1.offset).take (P.cellsOf f1.type)) = some y1 ∧ DataW.trod enc P w base spare held n f2.type ((cs.drop f2.offset).take (P.cellsOf f2.type)) = some y2 ∧
      DataW.trod enc P w base spare held n f3.type ((cs.drop f3.offset).take (P.cellsOf f3.type)) = some y3 ∧ DataW.trod enc P w base spare held n f4.type ((cs.drop f4.offset).take (P.cellsOf f4.type)) = some y4 := by
  obtain ⟨xs, n, _, rfl, hl, hlen, hf⟩ := DataW.trod_struct ht h
  match xs, hlen with
  | [y0, y1, y2, y3, y4], _ => exact ⟨y0, y1, y2, y3, y4, n, by simp, hl, by simpa using hf 0 f0 rfl, by simpa using hf 1 f1 rfl, by simpa using hf 2 f2 rfl, by simpa using hf 3 f3 rfl, by simpa using hf 4 f4 rfl⟩
theorem cells_date : Tryz.prog.cellsOf 52 = 10 := by kernel_rfl
theorem cells_year : Tryz.prog.cellsOf 49 = 5 := by kernel_rfl
theorem cells_marks : Tryz.prog.cellsOf 50 = 3 := by kernel_rfl
theorem cells_civil : Tryz.prog.cellsOf 56 = 3 := by kernel_rfl
theorem cells_bool : Tryz.prog.cellsOf 4 = 1 := by kernel_rfl
theorem cells_str : Tryz.prog.cellsOf 9 = 1 := by kernel_rfl
theorem cells_int : Tryz.prog.cellsOf 3 = 1 := by kernel_rfl
theorem cells_i64 : Tryz.prog.cellsOf 2 = 1 := by kernel_rfl
theorem cells_u8 : Tryz.prog.cellsOf 5 = 1 := by kernel_rfl
/-- A date as a datum. -/
def datD (d : Dt) : DataW H := .agg [.agg [.lit (.bool d.neg), .lit (.bool d.long), .lit (.string d.dg.data.toList), .lit (.int .i64 d.ex), .lit (.int .i64 d.sig)], .lit (.string d.mo.data.toList), .lit (.string d.da.data.toList), .agg [.lit (.int .u8 d.m0), .lit (.int .u8 d.m1), .lit (.int .u8 d.m2)]]
/-- What is known of a date that comes in. -/
structure Dt.wf (d : Dt) : Prop where
  ex : (Lit.int .i64 d.ex).wf = true
  sig : (Lit.int .i64 d.sig).wf = true
  m0 : (Lit.int .u8 d.m0).wf = true
  m1 : (Lit.int .u8 d.m1).wf = true
  m2 : (Lit.int .u8 d.m2).wf = true
  dg : d.dg.size ≤ maxLen
  mo : d.mo.size ≤ maxLen
  da : d.da.size ≤ maxLen
theorem open_date {r : Reach} {b0 : Nat} {v : Value} {x : DataW H} {ps : List MemPlace} (hv : Value.okWide Tryz.prog w r b0 52 v) (hd : DataW.Trod enc Tryz.prog w base spare held 52 v x ps) :
    ∃ d : Dt, v = dtv d ∧ x = datD d ∧ ps = [] ∧ d.wf := by
  obtain ⟨cs, rfl, hsz⟩ := okWide_struct Tryz.underlying52 hv
  obtain ⟨fuel, hf⟩ := hd
  rw [cells_date] at hsz
  obtain ⟨l⟩ := cs
  match l, hsz with
  | [c0, c1, c2, c3, c4, c5, c6, c7, c8, c9], _ =>
    obtain ⟨y0, y1, y2, y3, n, hx, _, h0, h1, h2, h3⟩ := Go.Joins.trod_struct4 Tryz.underlying52 hf
    rw [cells_year] at h0
    rw [cells_str] at h1 h2
    rw [cells_marks] at h3
    obtain ⟨s5, e5, rfl, w5⟩ := DataW.trod_string Tryz.underlying9 h1
    obtain ⟨s6, e6, rfl, w6⟩ := DataW.trod_string Tryz.underlying9 h2
    obtain ⟨z0, z1, z2, z3, z4, n2, rfl, _, g0, g1, g2, g3, g4⟩ := trod_struct5 Tryz.underlying49 h0
    rw [cells_bool] at g0 g1
    rw [cells_str] at g2
    rw [cells_int] at g3 g4
    obtain ⟨n0, e0, rfl⟩ := DataW.trod_bool Tryz.underlying4 g0
    obtain ⟨n1, e1, rfl⟩ := DataW.trod_bool Tryz.underlying4 g1
    obtain ⟨s2, e2, rfl, w2⟩ := DataW.trod_string Tryz.underlying9 g2
    obtain ⟨i3, e3, rfl, w3⟩ := DataW.trod_int Tryz.underlying3 g3
    obtain ⟨i4, e4, rfl, w4⟩ := DataW.trod_int Tryz.underlying3 g4
    obtain ⟨u0, u1, u2, n3, rfl, k0, k1, k2⟩ := trod_array3 (c0 := c7) (c1 := c8) (c2 := c9) Tryz.underlying50 cells_u8 h3
    obtain ⟨i7, e7, rfl, w7⟩ := DataW.trod_int Tryz.underlying5 k0
    obtain ⟨i8, e8, rfl, w8⟩ := DataW.trod_int Tryz.underlying5 k1
    obtain ⟨i9, e9, rfl, w9⟩ := DataW.trod_int Tryz.underlying5 k2
    have f0 : c0 = .bool n0 := by simpa [Value.cells] using e0
    have f1 : c1 = .bool n1 := by simpa [Value.cells] using e1
    have f2 : c2 = .string s2 := by simpa [Value.cells] using e2
    have f3 : c3 = .int .i64 i3 := by simpa [Value.cells] using e3
    have f4 : c4 = .int .i64 i4 := by simpa [Value.cells] using e4
    have f5 : c5 = .string s5 := by simpa [Value.cells] using e5
    have f6 : c6 = .string s6 := by simpa [Value.cells] using e6
    have f7 : c7 = .int .u8 i7 := by simpa [Value.cells] using e7
    have f8 : c8 = .int .u8 i8 := by simpa [Value.cells] using e8
    have f9 : c9 = .int .u8 i9 := by simpa [Value.cells] using e9
    subst f0 f1 f2 f3 f4 f5 f6 f7 f8 f9
    simp only [Prod.mk.injEq] at hx
    exact ⟨⟨n0, n1, s2, i3, i4, s5, s6, i7, i8, i9⟩, rfl, hx.1, hx.2, ⟨w3, w4, w7, w8, w9, w2, w5, w6⟩⟩
theorem shut_date {d : Dt} (h : d.wf) : DataW.Trod enc Tryz.prog w base spare held 52 (dtv d) (datD d) [] := by
  obtain ⟨w3, w4, w7, w8, w9, w2, w5, w6⟩ := h
  exact ⟨3, by simp [DataW.trod, dtv, datD, Value.cells, Tryz.underlying52, Tryz.underlying49, Tryz.underlying50, Tryz.underlying4, Tryz.underlying9, Tryz.underlying3, Tryz.underlying5, cells_date, cells_year, cells_marks, cells_bool, cells_str, cells_int, cells_u8, w2, w3, w4, w5, w6, w7, w8, w9, show List.range 3 = [0, 1, 2] from rfl]⟩
theorem open_civil {r : Reach} {b0 : Nat} {v : Value} {x : DataW H} {ps : List MemPlace} (hv : Value.okWide Tryz.prog w r b0 56 v) (hd : DataW.Trod enc Tryz.prog w base spare held 56 v x ps) :
    ∃ y m k, v = cvv y m k ∧ x = .agg [.lit (.int .i64 y), .lit (.int .i64 m), .lit (.int .i64 k)] ∧ ps = [] ∧ (Lit.int .i64 y).wf = true ∧ (Lit.int .i64 m).wf = true ∧ (Lit.int .i64 k).wf = true := by
  obtain ⟨cs, rfl, hsz⟩ := okWide_struct Tryz.underlying56 hv
  obtain ⟨fuel, hf⟩ := hd
  rw [cells_civil] at hsz
  obtain ⟨l⟩ := cs
  match l, hsz with
  | [c0, c1, c2], _ =>
    obtain ⟨y0, y1, y2, n, hx, _, h0, h1, h2⟩ := Go.Deep.trod_struct3 Tryz.underlying56 hf
    rw [cells_i64] at h0
    rw [cells_int] at h1 h2
    obtain ⟨i0, e0, rfl, w0⟩ := DataW.trod_int Tryz.underlying2 h0
    obtain ⟨i1, e1, rfl, w1⟩ := DataW.trod_int Tryz.underlying3 h1
    obtain ⟨i2, e2, rfl, w2⟩ := DataW.trod_int Tryz.underlying3 h2
    have f0 : c0 = .int .i64 i0 := by simpa [Value.cells] using e0
    have f1 : c1 = .int .i64 i1 := by simpa [Value.cells] using e1
    have f2 : c2 = .int .i64 i2 := by simpa [Value.cells] using e2
    subst f0 f1 f2
    simp only [Prod.mk.injEq] at hx
    exact ⟨i0, i1, i2, rfl, hx.1, hx.2, w0, w1, w2⟩
theorem shut_civil {y m k : Int} (w0 : (Lit.int .i64 y).wf = true) (w1 : (Lit.int .i64 m).wf = true) (w2 : (Lit.int .i64 k).wf = true) : DataW.Trod enc Tryz.prog w base spare held 56 (cvv y m k) (.agg [.lit (.int .i64 y), .lit (.int .i64 m), .lit (.int .i64 k)]) [] :=
  ⟨3, by simp [DataW.trod, cvv, Value.cells, Tryz.underlying56, Tryz.underlying3, Tryz.underlying2, cells_civil, cells_int, cells_i64, w0, w1, w2]⟩
end
theorem laidP {w : World} (h : laidMetH Tryz.prog Rows.unitsKnownRow.laid w) : laidMet Tryz.prog Rows.unitsKnownRow.laid w := by
  rw [Go.MakeChecks.laidMetH_plain _ _ _ (by kernel_rfl)] at h
  exact h
theorem laid_metH (os : Os) (args : Array Value) : laidMetH Tryz.prog Rows.unitsKnownRow.laid ((Un.laidWorld os).forCall (fun _ _ => 0) ⟨#[], args, []⟩).memory := by
  rw [Go.MakeChecks.laidMetH_plain _ _ _ (by kernel_rfl)]
  exact Un.laid_met os args
end Bk
end Go.Proofs.YtipjmaimjchckaaGreatDoor

/-! Small facts that join a law's walk to its statement: the program's own knob, the ranges of plain arguments. -/
set_option linter.unusedSimpArgs false
set_option linter.unusedVariables false
namespace Go.Proofs.YtipjmaimjchckaaGreatDoor


theorem wf_f64 {b : Nat} (h : (Lit.float .f64 b).wf = true) : b < 18446744073709551616 := by
  simpa [Lit.wf] using h
theorem wf_i64 {n : Int} (h : (Lit.int .i64 n).wf = true) : -9223372036854775808 ≤ n ∧ n < 9223372036854775808 := by
  have m1 : IntKind.i64.min = -9223372036854775808 := by decide
  have m2 : IntKind.i64.max = 9223372036854775807 := by decide
  simp [Lit.wf, m1, m2] at h; omega
theorem wf_u8 {n : Int} (h : (Lit.int .u8 n).wf = true) : 0 ≤ n ∧ n < 256 := by
  have m1 : IntKind.u8.min = 0 := by decide
  have m2 : IntKind.u8.max = 255 := by decide
  simp [Lit.wf, m1, m2] at h; omega
theorem wf_u16 {n : Int} (h : (Lit.int .u16 n).wf = true) : 0 ≤ n ∧ n < 65536 := by
  have m1 : IntKind.u16.min = 0 := by decide
  have m2 : IntKind.u16.max = 65535 := by decide
  simp [Lit.wf, m1, m2] at h; omega
end Go.Proofs.YtipjmaimjchckaaGreatDoor

/-! A world for a row that lists variables: one in which a listed variable may hold an address. -/
set_option linter.unusedVariables false
namespace Go.Proofs.YtipjmaimjchckaaGreatDoor
open Go.ChangeShapes Go.WideShapes Go.ChangeAt Go.RowKit
theorem row_witness {H : Type} {enc : TypeId × Value → H} {C : Checked} {os : Os} {f : FuncId} {fn : Func} {s : OpenSpec} {conds : List PathCond} {apart : Bool} {laid : List (String × DataW Unit)} (w0 : World) (args : Array Value) (hos : w0.os = os)
    (hv : (w0.forCall (fun _ _ => 0) ⟨#[], args, []⟩).variablesRefB C.prog = true)
    (hr : ((w0.forCall (fun _ _ => 0) ⟨#[], args, []⟩).heap.toList.drop C.prog.globals.size).take ((begin C.prog (fun _ _ => 0) default).world.heap.size - C.prog.globals.size) = (begin C.prog (fun _ _ => 0) default).world.heap.toList.drop C.prog.globals.size)
    (hok : Input.okWideB C.prog (w0.forCall (fun _ _ => 0) ⟨#[], args, []⟩) f ⟨#[], args, []⟩ = true)
    (hrow : s.preRow enc C.prog fn conds apart laid (w0.forCall (fun _ _ => 0) ⟨#[], args, []⟩).memory args) :
    ∃ (w : World) (tape : Tape) (i : Input), w.os = os ∧ (w.forCall tape i).Shaped C.prog ∧ i.vars = [] ∧ Input.okWide C.prog (w.forCall tape i) .any w.heap.size f i ∧
      s.preRow enc C.prog fn conds apart laid (w.forCall tape i).memory i.args ∧ ({ modest := false } : Assume).holds C.prog (lone (Frame.enter C.prog f i.args .normal) [] (w.forCall tape i)) := by
  obtain ⟨w, tape, i, h1, h2, h3, h4, h5, h6, _⟩ := OpenSpec.witness_stopped_atRef (enc := enc) (C := C) (fn := fn) (s := s) (conds := conds) (apart := apart) (laid := laid) false w0 args hos hv hr hok hrow (fun _ _ _ => 0)
  exact ⟨w, tape, i, h1, h2, h3, h4, h5, h6⟩
end Go.Proofs.YtipjmaimjchckaaGreatDoor

