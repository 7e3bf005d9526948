/- The law SeeksErrors (families that cannot be searched are refused by all functions) returns true, as a card; no conditions. -/
import Derived.Test.YtacggmlngekidaaGreatDoorRows
import Derived.Test.YtacggmlngekidaaGreatDoorCards
import Derived.Test.YtacggmlngekidaaGreatDoorTie
import Derived.Test.YtacggmlngekidaaGreatDoorP2
import Derived.Test.YtacggmlngekidaaGreatDoorP3
import Derived.Test.YtacggmlngekidaaGreatDoorP5
import Derived.OpenShut
import Derived.Deep.Slices
import Derived.Deep.Strs
import Derived.Lib.SmallJoins
import Derived.Laws.IdiomArrays
import Derived.ProofKit
import Derived.WalkKit
import Derived.Deep.DeepHandedRow
import Derived.Lib.LaidTab
import Derived.ChangeAlike
import Derived.LaidMore
import Derived.LaidHandle
import Derived.SevenTiedAt
import Derived.MakeChecks
import Derived.Deep.DeepWitnessRef
import Derived.RowKit
set_option linter.unusedSimpArgs false
set_option linter.unusedVariables false
set_option maxRecDepth 1000000
set_option maxHeartbeats 8000000
set_option linter.unusedSectionVars false
namespace Go.Proofs.YtacggmlngekidaaGreatDoor
section
open Go.ChangeShapes Go.WideShapes Go.ChangeAt Go.RowKit Go.Lib
namespace Sk
open Bk (Dt bZ)
section
variable {H : Type} {enc : TypeId × Value -> H} {w : World} {base : Nat} {spare : Nat -> Bool} {held : Bool}
theorem yS {P : Program} {t : TypeId} {f0 f1 f2 f3 f4 : Field} {fuel : Nat} {cs : List Value} {x : DataW H × List MemPlace} (ht : P.underlying t = some (.struct #[f0, f1, f2, f3, f4])) (h : DataW.trod enc P w base spare held fuel t cs = some x) :
 ∃ y0 y1 y2 y3 y4 n, x = (.agg [y0.1, y1.1, y2.1, y3.1, y4.1], y0.2 ++ (y1.2 ++ (y2.2 ++ (y3.2 ++ y4.2)))) /\ cs.length = P.cellsOf t /\ DataW.trod enc P w base spare held n f0.type ((cs.drop f0.offset).take (P.cellsOf f0.type)) = some y0 /\
  DataW.trod enc P w base spare held n f1.type ((cs.drop f1.offset).take (P.cellsOf f1.type)) = some y1 /\ DataW.trod enc P w base spare held n f2.type ((cs.drop f2.offset).take (P.cellsOf f2.type)) = some y2 /\
  DataW.trod enc P w base spare held n f3.type ((cs.drop f3.offset).take (P.cellsOf f3.type)) = some y3 /\ DataW.trod enc P w base spare held n f4.type ((cs.drop f4.offset).take (P.cellsOf f4.type)) = some y4 := by
 obtain ⟨xs, n, _, rfl, hl, hlen, hf⟩ := DataW.trod_struct ht h
 match xs, hlen with
 | [y0, y1, y2, y3, y4], _ => exact ⟨y0, y1, y2, y3, y4, n, by simp, hl, by simpa using hf 0 f0 rfl, by simpa using hf 1 f1 rfl, by simpa using hf 2 f2 rfl, by simpa using hf 3 f3 rfl, by simpa using hf 4 f4 rfl⟩
theorem aEj : Tryz.prog.cellsOf 44 = 17 := by kernel_rfl
theorem OU : Tryz.prog.cellsOf 42 = 4 := by kernel_rfl
theorem aEk : Tryz.prog.cellsOf 40 = 2 := by kernel_rfl
theorem aA7 : Tryz.prog.cellsOf 37 = 10 := by kernel_rfl
theorem aA5 : Tryz.prog.cellsOf 35 = 5 := by kernel_rfl
theorem YC : Tryz.prog.cellsOf 26 = 3 := by kernel_rfl
theorem aA8 : Tryz.prog.cellsOf 4 = 1 := by kernel_rfl
theorem OQ : Tryz.prog.cellsOf 9 = 1 := by kernel_rfl
theorem aEh : Tryz.prog.cellsOf 3 = 1 := by kernel_rfl
theorem aEi : Tryz.prog.cellsOf 2 = 1 := by kernel_rfl
theorem aHw : Tryz.prog.cellsOf 38 = 1 := by kernel_rfl
theorem YA : Tryz.prog.cellsOf 5 = 1 := by kernel_rfl
theorem aA6 : Tryz.prog.cellsOf 33 = 1 := by kernel_rfl
theorem b64 {x : Int} (h : (Lit.int .i64 x).wf = true) : -9223372036854775808 <= x /\ x < 9223372036854775808 := by
 simp [Lit.wf, IntKind.min, IntKind.max, IntKind.signed, IntKind.bits] at h; omega
theorem b8 {x : Int} (h : (Lit.int .u8 x).wf = true) : 0 <= x /\ x < 256 := by
 simp [Lit.wf, IntKind.min, IntKind.max, IntKind.signed, IntKind.bits] at h; omega
theorem UQ {fuel : Nat} {c0 c1 c2 c3 : Value} {x : DataW H × List MemPlace} (h : DataW.trod enc Tryz.prog w base spare held fuel 42 [c0, c1, c2, c3] = some x) :
 ∃ a lo b hi, c0 = .int .i8 a /\ c1 = .int .i64 lo /\ c2 = .int .i8 b /\ c3 = .int .i64 hi /\ (R4.mk a lo b hi).Bd := by
 obtain ⟨y0, y1, n, _, _, h0, h1⟩ := trod_struct2 Tryz.underlying42 h
 rw [aEk] at h0 h1
 obtain ⟨z0, z1, n0, _, _, g0, g1⟩ := trod_struct2 Tryz.underlying40 h0
 obtain ⟨u0, u1, n1, _, _, k0, k1⟩ := trod_struct2 Tryz.underlying40 h1
 rw [aHw] at g0 k0
 rw [aEi] at g1 k1
 obtain ⟨i0, e0, _, w0⟩ := DataW.trod_int Tryz.underlying38 g0
 obtain ⟨i1, e1, _, w1⟩ := DataW.trod_int Tryz.underlying2 g1
 obtain ⟨i2, e2, _, w2⟩ := DataW.trod_int Tryz.underlying38 k0
 obtain ⟨i3, e3, _, w3⟩ := DataW.trod_int Tryz.underlying2 k1
 simp at e0 e1 e2 e3
 exact ⟨i0, i1, i2, i3, e0, e1, e2, e3, ⟨(b64 w1).1, (b64 w1).2, (b64 w3).1, (b64 w3).2⟩⟩
theorem aCK {fuel : Nat} {c0 c1 c2 c3 c4 c5 c6 c7 c8 c9 : Value} {x : DataW H × List MemPlace} (hf : DataW.trod enc Tryz.prog w base spare held fuel 37 [c0, c1, c2, c3, c4, c5, c6, c7, c8, c9] = some x) :
 ∃ d : Dt, .agg #[c0, c1, c2, c3, c4, c5, c6, c7, c8, c9] = bZ d /\ -9223372036854775808 <= d.sig /\ d.sig < 9223372036854775808 /\ 0 <= d.m0 /\ 0 <= d.m1 /\ 0 <= d.m2 := by
 obtain ⟨y0, y1, y2, y3, n, hx, _, h0, h1, h2, h3⟩ := Go.Joins.trod_struct4 Tryz.underlying37 hf
 rw [aA5] at h0
 rw [OQ] at h1 h2
 rw [YC] at h3
 obtain ⟨s5, e5, _, w5⟩ := DataW.trod_string Tryz.underlying9 h1
 obtain ⟨s6, e6, _, w6⟩ := DataW.trod_string Tryz.underlying9 h2
 obtain ⟨z0, z1, z2, z3, z4, n2, _, _, g0, g1, g2, g3, g4⟩ := yS Tryz.underlying35 h0
 rw [aA8] at g0 g1
 rw [OQ] at g2
 rw [aEh] at g3 g4
 obtain ⟨n0, e0, _⟩ := DataW.trod_bool Tryz.underlying4 g0
 obtain ⟨n1, e1, _⟩ := DataW.trod_bool Tryz.underlying4 g1
 obtain ⟨s2, e2, _, w2⟩ := DataW.trod_string Tryz.underlying9 g2
 obtain ⟨i3, e3, _, w3⟩ := DataW.trod_int Tryz.underlying3 g3
 obtain ⟨i4, e4, _, w4⟩ := DataW.trod_int Tryz.underlying3 g4
 obtain ⟨u0, u1, u2, n3, _, k0, k1, k2⟩ := trod_array3 (c0 := c7) (c1 := c8) (c2 := c9) Tryz.underlying26 YA h3
 obtain ⟨i7, e7, _, w7⟩ := DataW.trod_int Tryz.underlying5 k0
 obtain ⟨i8, e8, _, w8⟩ := DataW.trod_int Tryz.underlying5 k1
 obtain ⟨i9, e9, _, w9⟩ := DataW.trod_int Tryz.underlying5 k2
 have f0 : c0 = .bool n0 := by simpa using e0
 have f1 : c1 = .bool n1 := by simpa using e1
 have f2 : c2 = .string s2 := by simpa using e2
 have f3 : c3 = .int .i64 i3 := by simpa using e3
 have f4 : c4 = .int .i64 i4 := by simpa using e4
 have f5 : c5 = .string s5 := by simpa using e5
 have f6 : c6 = .string s6 := by simpa using e6
 have f7 : c7 = .int .u8 i7 := by simpa using e7
 have f8 : c8 = .int .u8 i8 := by simpa using e8
 have f9 : c9 = .int .u8 i9 := by simpa using e9
 subst f0 f1 f2 f3 f4 f5 f6 f7 f8 f9
 exact ⟨⟨n0, n1, s2, i3, i4, s5, s6, i7, i8, i9⟩, rfl, (b64 w4).1, (b64 w4).2, (b8 w7).1, (b8 w8).1, (b8 w9).1⟩
theorem cell_lt {w : World} {a : Addr} {v : Value} (h : w.cell? a = some v) : a.block < w.heap.size := by
 unfold World.cell? at h
 by_cases hl : a.block < w.heap.size
 . exact hl
 . exfalso
   have : w.heap[a.block]? = none := Array.getElem?_eq_none (by omega)
   simp [this] at h
theorem aCJ {fuel : Nat} {c : Value} {x : DataW H × List MemPlace} (h : DataW.trod enc Tryz.prog w base spare held fuel 33 [c] = some x) :
 ∃ bs n cp, ∃ f : Nat -> R4, c = .slice bs n cp /\ AY w bs n f /\ ∀ j, (f j).Bd := by
 have z : ∀ j : Nat, (R4.mk 0 0 0 0).Bd := fun _ => ⟨by decide, by decide, by decide, by decide⟩
 rcases Go.Deep.open_slice Tryz.underlying33 h with ⟨h0, _⟩ | ⟨a, len, cap, m, n, D, Pl, h0, hb, hl, hm, hmm, _, hx⟩
 . simp at h0
   exact ⟨none, 0, 0, fun _ => ⟨0, 0, 0, 0⟩, h0, fun i hi => absurd hi (by omega), z⟩
 . simp at h0
   rw [OU] at hx
   have key : ∀ i, i < len -> ∃ r : R4, (∃ g o, some a = some ⟨g, o, none⟩ /\ g < w.heap.size /\ w.cell? ⟨g, o + i * 4, none⟩ = some (.int .i8 r.a) /\ w.cell? ⟨g, o + i * 4 + 1, none⟩ = some (.int .i64 r.lo) /\ w.cell? ⟨g, o + i * 4 + 2, none⟩ = some (.int .i8 r.b) /\ w.cell? ⟨g, o + i * 4 + 3, none⟩ = some (.int .i64 r.hi)) /\ r.Bd := by
    intro i hi
    obtain ⟨cs, h1, h2⟩ := hx i (by rw [hmm]; split <;> omega)
    obtain ⟨_, hlen, hc⟩ := World.cells?_some h1
    match cs, hlen with
    | [c0, c1, c2, c3], _ =>
     obtain ⟨qa, ql, qb, qh, rfl, rfl, rfl, rfl, hbd⟩ := UQ h2
     have g0 := hc 0 (by decide)
     have g1 := hc 1 (by decide)
     have g2 := hc 2 (by decide)
     have g3 := hc 3 (by decide)
     simp only [List.getElem?_cons_zero, List.getElem?_cons_succ] at g0 g1 g2 g3
     rw [Go.Deep.add_add] at g0 g1 g2 g3
     obtain ⟨cs2, q1, q2⟩ := hx 0 (by rw [hmm]; split <;> omega)
     obtain ⟨_, qlen, qc⟩ := World.cells?_some q1
     have q0 := qc 0 (by decide)
     obtain ⟨g, o, spot⟩ := a
     have hs : spot = none := by
      match cs2, qlen with
      | [d0, d1, d2, d3], _ => simpa [Addr.add] using World.cell?_spot q0
     subst hs
     rw [add_plain] at g0 g1 g2 g3
     refine ⟨⟨qa, ql, qb, qh⟩, ⟨g, o, rfl, ?_, g0, g1, g2, g3⟩, hbd⟩
     exact cell_lt g0
   classical
   refine ⟨some a, len, cap, fun i => if hi : i < len then Classical.choose (key i hi) else ⟨0, 0, 0, 0⟩, h0, fun i hi => ?_, fun j => ?_⟩
   . have := (Classical.choose_spec (key i hi)).1
     simp only [dif_pos hi]
     exact this
   . dsimp only
     split
     . rename_i hj; exact (Classical.choose_spec (key j hj)).2
     . exact z 0
theorem aFB {r : Reach} {b0 : Nat} {v : Value} {x : DataW H} {ps : List MemPlace} (hv : Value.okWide Tryz.prog w r b0 44 v) (hd : DataW.Trod enc Tryz.prog w base spare held 44 v x ps) :
 ∃ (k : Int) (bs : Option Addr) (n cp : Nat) (f : Nat -> R4) (d : Dt) (p a lo b hi : Int), v = fam k (.slice bs n cp) d p a lo b hi /\ aK3 bs n f d k p lo hi w := by
 obtain ⟨cs, rfl, hsz⟩ := okWide_struct Tryz.underlying44 hv
 obtain ⟨fuel, hf⟩ := hd
 rw [aEj] at hsz
 obtain ⟨l⟩ := cs
 match l, hsz with
 | [c0, c1, c2, c3, c4, c5, c6, c7, c8, c9, c10, c11, c12, c13, c14, c15, c16], _ =>
  obtain ⟨y0, y1, y2, y3, y4, m, _, _, h0, h1, h2, h3, h4⟩ := yS Tryz.underlying44 hf
  rw [YA] at h0 h3
  rw [aA6] at h1
  rw [aA7] at h2
  rw [OU] at h4
  obtain ⟨k, e0, _, w0⟩ := DataW.trod_int Tryz.underlying5 h0
  obtain ⟨p, e3, _, w3⟩ := DataW.trod_int Tryz.underlying5 h3
  obtain ⟨bs, n, cp, f, e1, hR, hB⟩ := aCJ (c := c1) h1
  obtain ⟨d, e2, s0, s1, m0, m1, m2⟩ := aCK (c0 := c2) (c1 := c3) (c2 := c4) (c3 := c5) (c4 := c6) (c5 := c7) (c6 := c8) (c7 := c9) (c8 := c10) (c9 := c11) h2
  obtain ⟨a, lo, b, hi, g0, g1, g2, g3, bd⟩ := UQ (c0 := c13) (c1 := c14) (c2 := c15) (c3 := c16) h4
  have f0 : c0 = .int .u8 k := by simpa [Value.cells] using e0
  have f3 : c12 = .int .u8 p := by simpa [Value.cells] using e3
  unfold bZ at e2
  simp only [Value.agg.injEq, Array.mk.injEq, List.cons.injEq, and_true] at e2
  obtain ⟨rfl, rfl, rfl, rfl, rfl, rfl, rfl, rfl, rfl, rfl⟩ := e2
  subst f0 f3 e1 g0 g1 g2 g3
  exact ⟨k, bs, n, cp, f, d, p, a, lo, b, hi, rfl, ⟨hR, hB, s0, s1, m0, m1, m2, (b8 w3).1, (b8 w3).2, bd.h0, bd.h1, bd.h2, bd.h3, (b8 w0).1⟩⟩
end
end Sk
end
section
open Go.RowKit Go.Lib
namespace Sk
open Un Bk
theorem UJ {w : World} (hl : laidMetH Tryz.prog Rows.seeksErrorsRow.laid w) : qI w := by
 obtain ⟨ρ, hs⟩ := Ev.BI hl (fun _ => ⟨0, 0, .nilIface⟩) w (Below.refl _ _)
 have look : ∀ b o, Ev.aGX Ev.hp b = some o -> (Ev.Hs.mk Ev.hp 15).look [] b = some o := fun b o h => h
 have gl := @Ev.aU.gl Ev.G0 _ _ _ _ _ hs
 obtain ⟨_, c0, _⟩ := @Ev.aU.obj Ev.G0 _ _ _ _ _ hs 2 (.ro Ev.k2) (look _ _ (by kernel_rfl))
 obtain ⟨_, c3, _⟩ := @Ev.aU.obj Ev.G0 _ _ _ _ _ hs 5 (.ro Ev.k5) (look _ _ (by kernel_rfl))
 obtain ⟨_, c13, _⟩ := @Ev.aU.obj Ev.G0 _ _ _ _ _ hs 14 (.ro Ev.k14) (look _ _ (by kernel_rfl))
 obtain ⟨_, c1, _⟩ := @Ev.aU.obj Ev.G0 _ _ _ _ _ hs 1 (.ro Ev.k1) (look _ _ (by kernel_rfl))
 obtain ⟨_, c4, _⟩ := @Ev.aU.obj Ev.G0 _ _ _ _ _ hs 3 (.ro Ev.k3) (look _ _ (by kernel_rfl))
 obtain ⟨_, c5, _⟩ := @Ev.aU.obj Ev.G0 _ _ _ _ _ hs 4 (.ro Ev.k4) (look _ _ (by kernel_rfl))
 have l0 := gl 2 (by show _ < 12; decide)
 have l3 := gl 5 (by show _ < 12; decide)
 have l1 := gl 1 (by show _ < 12; decide)
 have l4 := gl 3 (by show _ < 12; decide)
 have l5 := gl 4 (by show _ < 12; decide)
 rw [l0.1, l0.2.1] at c0
 rw [l3.1, l3.2.1] at c3
 rw [l1.1, l1.2.1] at c1
 rw [l4.1, l4.2.1] at c4
 rw [l5.1, l5.2.1] at c5
 refine ⟨⟨⟨ρ.blk 14, ρ.off 14, c3 0 _ rfl, c13 0 _ rfl, c13 1 _ rfl, c13 2 _ rfl, c13 3 _ rfl, c13 4 _ rfl, c13 5 _ rfl⟩, fun i hi => ?_⟩, fun i hi => ?_, ⟨_, _, c4 0 (.mp 13) rfl⟩, ⟨_, _, c5 0 (.mp 12) rfl⟩⟩
 . have : i = 0 \/ i = 1 \/ i = 2 \/ i = 3 \/ i = 4 \/ i = 5 \/ i = 6 \/ i = 7 \/ i = 8 \/ i = 9 \/ i = 10 \/ i = 11 := by omega
   rcases this with rfl | rfl | rfl | rfl | rfl | rfl | rfl | rfl | rfl | rfl | rfl | rfl
   . exact c0 0 (.v (.int .i64 (ml 0))) rfl
   . exact c0 1 (.v (.int .i64 (ml 1))) rfl
   . exact c0 2 (.v (.int .i64 (ml 2))) rfl
   . exact c0 3 (.v (.int .i64 (ml 3))) rfl
   . exact c0 4 (.v (.int .i64 (ml 4))) rfl
   . exact c0 5 (.v (.int .i64 (ml 5))) rfl
   . exact c0 6 (.v (.int .i64 (ml 6))) rfl
   . exact c0 7 (.v (.int .i64 (ml 7))) rfl
   . exact c0 8 (.v (.int .i64 (ml 8))) rfl
   . exact c0 9 (.v (.int .i64 (ml 9))) rfl
   . exact c0 10 (.v (.int .i64 (ml 10))) rfl
   . exact c0 11 (.v (.int .i64 (ml 11))) rfl
 . have : i = 0 \/ i = 1 \/ i = 2 \/ i = 3 \/ i = 4 \/ i = 5 \/ i = 6 \/ i = 7 \/ i = 8 \/ i = 9 \/ i = 10 \/ i = 11 \/ i = 12 \/ i = 13 \/ i = 14 \/ i = 15 \/ i = 16 \/ i = 17 \/ i = 18 \/ i = 19 \/ i = 20 \/ i = 21 \/ i = 22 \/ i = 23 \/ i = 24 \/ i = 25 \/ i = 26 \/ i = 27 \/ i = 28 \/ i = 29 \/ i = 30 \/ i = 31 \/ i = 32 \/ i = 33 \/ i = 34 \/ i = 35 \/ i = 36 \/ i = 37 \/ i = 38 \/ i = 39 \/ i = 40 \/ i = 41 := by omega
   rcases this with rfl | rfl | rfl | rfl | rfl | rfl | rfl | rfl | rfl | rfl | rfl | rfl | rfl | rfl | rfl | rfl | rfl | rfl | rfl | rfl | rfl | rfl | rfl | rfl | rfl | rfl | rfl | rfl | rfl | rfl | rfl | rfl | rfl | rfl | rfl | rfl | rfl | rfl | rfl | rfl | rfl | rfl
   . exact c1 0 (.v (.int .i64 (pO 0))) rfl
   . exact c1 1 (.v (.int .i64 (pO 1))) rfl
   . exact c1 2 (.v (.int .i64 (pO 2))) rfl
   . exact c1 3 (.v (.int .i64 (pO 3))) rfl
   . exact c1 4 (.v (.int .i64 (pO 4))) rfl
   . exact c1 5 (.v (.int .i64 (pO 5))) rfl
   . exact c1 6 (.v (.int .i64 (pO 6))) rfl
   . exact c1 7 (.v (.int .i64 (pO 7))) rfl
   . exact c1 8 (.v (.int .i64 (pO 8))) rfl
   . exact c1 9 (.v (.int .i64 (pO 9))) rfl
   . exact c1 10 (.v (.int .i64 (pO 10))) rfl
   . exact c1 11 (.v (.int .i64 (pO 11))) rfl
   . exact c1 12 (.v (.int .i64 (pO 12))) rfl
   . exact c1 13 (.v (.int .i64 (pO 13))) rfl
   . exact c1 14 (.v (.int .i64 (pO 14))) rfl
   . exact c1 15 (.v (.int .i64 (pO 15))) rfl
   . exact c1 16 (.v (.int .i64 (pO 16))) rfl
   . exact c1 17 (.v (.int .i64 (pO 17))) rfl
   . exact c1 18 (.v (.int .i64 (pO 18))) rfl
   . exact c1 19 (.v (.int .i64 (pO 19))) rfl
   . exact c1 20 (.v (.int .i64 (pO 20))) rfl
   . exact c1 21 (.v (.int .i64 (pO 21))) rfl
   . exact c1 22 (.v (.int .i64 (pO 22))) rfl
   . exact c1 23 (.v (.int .i64 (pO 23))) rfl
   . exact c1 24 (.v (.int .i64 (pO 24))) rfl
   . exact c1 25 (.v (.int .i64 (pO 25))) rfl
   . exact c1 26 (.v (.int .i64 (pO 26))) rfl
   . exact c1 27 (.v (.int .i64 (pO 27))) rfl
   . exact c1 28 (.v (.int .i64 (pO 28))) rfl
   . exact c1 29 (.v (.int .i64 (pO 29))) rfl
   . exact c1 30 (.v (.int .i64 (pO 30))) rfl
   . exact c1 31 (.v (.int .i64 (pO 31))) rfl
   . exact c1 32 (.v (.int .i64 (pO 32))) rfl
   . exact c1 33 (.v (.int .i64 (pO 33))) rfl
   . exact c1 34 (.v (.int .i64 (pO 34))) rfl
   . exact c1 35 (.v (.int .i64 (pO 35))) rfl
   . exact c1 36 (.v (.int .i64 (pO 36))) rfl
   . exact c1 37 (.v (.int .i64 (pO 37))) rfl
   . exact c1 38 (.v (.int .i64 (pO 38))) rfl
   . exact c1 39 (.v (.int .i64 (pO 39))) rfl
   . exact c1 40 (.v (.int .i64 (pO 40))) rfl
   . exact c1 41 (.v (.int .i64 (pO 41))) rfl
end Sk
end
section
open Go.RowKit Go.Lib
namespace Sk
open Ev (gZ bJ hp AV EM LG QW uY VZ DN)
def g6 : AV := .v (.string ⟨#[48, 48, 48, 88]⟩)
def g1 : AV := .v (.int .i64 0)
def g0 : AV := .agg [(.v (.bool false)), (.v (.bool false)), g6, g1, g1, (.v (.string ⟨#[]⟩)), (.v (.string ⟨#[]⟩)), (.v (.int .u8 0)), (.v (.int .u8 0)), (.v (.int .u8 0))]
def g2 : AV := .v (.int .i8 0)
def g3 : AV := .v (.int .i64 1)
def g15 : AV := .v (.int .i64 366)
def g18 : AV := .v (.int .i64 730)
def g14 : AV := .v (.bool true)
def g4 : AV := .aP [(.agg [g2, g15, g2, g18]), g14]
def g5 : AV := .v (.int .i64 (-1))
def g7 : AV := .v (.int .i64 31)
def g8 : AV := .v (.int .i64 2)
def g9 : AV := .aP [(.agg [g2, g1, g2, g1]), (.v (.bool false))]
def g10 : AV := .aP [(.agg [g3, g1, g1]), g14, g1]
def g11 : AV := .agg [g2, (.v (.int .i64 3288)), g2, (.v (.int .i64 3652))]
def g12 : AV := .v (.int .i64 12)
def g13 : AV := .v (.int .i64 4)
def g16 : AV := .v (.int .i64 3)
def g17 : AV := .agg [g2, (.v (.int .i64 731)), g2, (.v (.int .i64 1095))]
def g19 : AV := .v (.int .i64 91)
def g20 : AV := .v (.int .i64 9)
def g21 : AV := .v (.int .i64 400)
def g22 : AV := .agg [(.v (.int .i8 1)), g1]
def g23 : AV := .aP [g1, g1]
def g24 : AV := .v (.int .i64 30)
def g25 : AV := .agg [g2, g1, g2, (.v (.int .i64 365))]
def g26 : AV := .v (.int .i64 5)
def g27 : AV := .agg [g2, g1]
def g28 : AV := .v (.int .i64 367)
def g29 : AV := .v (.int .i64 364)
def g30 : AV := .agg [g1, g1, g1]
def g31 : AV := .aP [g3, g1]
def g32 : AV := .aP [(.agg [g2, g19, g2, (.v (.int .i64 120))]), g1]
def g33 : AV := .agg [g2, g7]
def aAv : List EM := ([([g27, g27], g1), ([g33, g22], g5), ([g33, g33], g1), ([(.agg [g2, (.v (.int .i64 59))]), g22], g5), ([g27, g33], g5), ([(.agg [g2, (.v (.int .i64 60))]), g33], g3), ([(.agg [g2, (.v (.int .i64 90))]), g22], g5), ([(.agg [(.v (.int .i8 (-1))), g1]), (.agg [g2, g26])], g5), ([(.agg [g2, g26]), (.agg [g2, g26])], g1), ([g27, (.agg [g2, g3])], g5), ([(.agg [g2, g16]), (.agg [g2, g13])], g5), ([g27, (.agg [g2, g16])], g5), ([(.agg [g2, g3]), (.agg [g2, g13])], g5), ([(.agg [g2, g16]), g27], g3), ([(.agg [g2, g16]), (.agg [g2, g3])], g3), ([g27, g22], g5)].map fun e : List AV × AV => (78, e)) ++ [(51, [g0], g1)] ++ ([([g6, g1], g23), ([g6, g20], (.aP [g20, g1])), ([g6, g3], g31), ([g6, g8], (.aP [g8, g1]))].map fun e : List AV × AV => (160, e)) ++ ([([g1], g1), ([g3], g3), ([g20], g16), ([(.v (.int .i64 10))], g16), ([(.v (.int .i64 201))], (.v (.int .i64 49))), ([(.v (.int .i64 101))], (.v (.int .i64 25))), ([(.v (.int .i64 51))], (.v (.int .i64 13))), ([(.v (.int .i64 26))], (.v (.int .i64 7))), ([(.v (.int .i64 13))], g13), ([(.v (.int .i64 7))], g8), ([g13], g3), ([g8], g3), ([g16], g3), ([(.v (.int .i64 301))], (.v (.int .i64 73))), ([(.v (.int .i64 351))], (.v (.int .i64 85))), ([(.v (.int .i64 376))], g19), ([(.v (.int .i64 389))], (.v (.int .i64 95))), ([(.v (.int .i64 395))], (.v (.int .i64 96))), ([(.v (.int .i64 398))], (.v (.int .i64 97))), ([g21], (.v (.int .i64 97))), ([(.v (.int .i64 399))], (.v (.int .i64 97))), ([g5], g1)].map fun e : List AV × AV => (205, e)) ++ ([([g6, (.v (.int .i64 9223372036854775807))], (.aP [g20, g1])), ([g6, g3], g31), ([g6, g5], (.aP [g1, (.v (.int .i64 16))])), ([g6, g1], g23)].map fun e : List AV × AV => (161, e))
theorem aTw : aAv.all (QW gZ .nilIface hp LG 100 ([])) = true := by kernel_rfl
def aDH : List EM := ([([(.agg [g2, g1, g2, g1])], g1), ([(.agg [g2, g7, (.v (.int .i8 1)), g1])], g1), ([(.agg [(.v (.int .i8 (-1))), g1, g2, g26])], g1), ([(.agg [g2, g26, g2, g26])], g1), ([(.agg [g2, g1, g2, g3])], g1), ([(.agg [g2, g16, g2, g13])], g1), ([(.agg [g2, g1, (.v (.int .i8 1)), g1])], g1)].map fun e : List AV × AV => (49, e)) ++ ([([g0, g30], (.aP [g30, g14, g1])), ([g0, (.agg [g20, g1, g1])], (.aP [(.agg [g20, g1, g1]), g14, g1])), ([g0, (.agg [g3, g1, g1])], g10), ([g0, (.agg [g8, g1, g1])], (.aP [(.agg [g8, g1, g1]), g14, g1]))].map fun e : List AV × AV => (291, e)) ++ ([([g21], g31), ([g15], g31), ([g28], g31), ([g18], g31), ([g5], (.aP [g5, g1])), ([g29], g23), ([g7], g23), ([g24], g23), ([(.v (.int .i64 100))], g23), ([g19], g23)].map fun e : List AV × AV => (140, e)) ++ ([([g3, g8], (.aP [(.v (.int .i64 397)), g1])), ([g3, g3], (.aP [g15, g1])), ([g3, g12], (.aP [(.v (.int .i64 700)), g1])), ([g5, g12], (.aP [(.v (.int .i64 (-31))), g1])), ([g1, g12], (.aP [(.v (.int .i64 335)), g1])), ([g1, g8], (.aP [g7, g1])), ([g1, g3], g23), ([g1, g13], (.aP [g19, g1])), ([g1, g16], (.aP [(.v (.int .i64 60)), g1]))].map fun e : List AV × AV => (157, e)) ++ ([([g0, (.agg [g3, g8, g13])], g10), ([g0, (.agg [g3, g3, g3])], g10), ([g0, (.agg [g3, g3, g8])], g10), ([g0, (.agg [g3, g12, g7])], g10), ([g0, (.agg [g5, g12, g7])], (.aP [g30, (.v (.bool false)), g1])), ([g0, (.agg [g1, g12, g24])], (.aP [g30, g14, g1]))].map fun e : List AV × AV => (287, e))
theorem aTv : aDH.all (QW gZ .nilIface hp LG 100 (aAv ++ [])) = true := by kernel_rfl
def aGy : List EM := ([([g0, g30], (.aP [g25, g1])), ([g0, (.agg [g20, g1, g1])], (.aP [g11, g1])), ([g0, (.agg [g3, g1, g1])], (.aP [(.agg [g2, g15, g2, g18]), g1])), ([g0, (.agg [g8, g1, g1])], (.aP [g17, g1]))].map fun e : List AV × AV => (290, e)) ++ ([([g21], (.aP [g3, g8, g1])), ([g15], (.aP [g3, g3, g1])), ([g28], (.aP [g3, g3, g1])), ([g18], (.aP [g3, g12, g1])), ([g5], (.aP [g5, g12, g1])), ([g29], (.aP [g1, g12, g1])), ([g7], (.aP [g1, g8, g1])), ([g24], (.aP [g1, g3, g1])), ([(.v (.int .i64 100))], (.aP [g1, g13, g1])), ([g19], (.aP [g1, g13, g1]))].map fun e : List AV × AV => (143, e))
theorem aTu : aGy.all (QW gZ .nilIface hp LG 100 (aDH ++ (aAv ++ []))) = true := by kernel_rfl
def aI4 : List EM := [(276, [g0], (.aP [g25, g14]))] ++ [(278, [g0], (.aP [g11, g14]))] ++ ([([g21], (.aP [(.agg [g3, g8, g13]), g1])), ([g15], (.aP [(.agg [g3, g3, g3]), g1])), ([g28], (.aP [(.agg [g3, g3, g8]), g1])), ([g18], (.aP [(.agg [g3, g12, g7]), g1])), ([g5], (.aP [(.agg [g5, g12, g7]), g1])), ([g29], (.aP [(.agg [g1, g12, g24]), g1]))].map fun e : List AV × AV => (286, e)) ++ ([([g7, (.v (.int .u8 2))], (.aP [(.agg [g2, g7, g2, (.v (.int .i64 59))]), g1])), ([g24, (.v (.int .u8 2))], (.aP [(.agg [g2, g1, g2, g24]), g1])), ([(.v (.int .i64 100)), (.v (.int .u8 2))], g32), ([g19, (.v (.int .u8 2))], g32)].map fun e : List AV × AV => (85, e))
theorem aTt : aI4.all (QW gZ .nilIface hp LG 100 (aGy ++ (aDH ++ (aAv ++ [])))) = true := by kernel_rfl
def aLX : List EM := ([([g0, g21], g4), ([g0, g15], g4), ([g0, g28], g4), ([g0, g18], g4), ([g0, (.v (.int .i64 3289))], (.aP [g11, g14])), ([g0, g5], g9), ([g0, g29], (.aP [g25, g14]))].map fun e : List AV × AV => (281, e)) ++ ([([g0, (.agg [g2, g15, g2, g18])], (.aP [g17, g14])), ([g0, g11], g9)].map fun e : List AV × AV => (284, e))
theorem aTs : aLX.all (QW gZ .nilIface hp LG 100 (aI4 ++ (aGy ++ (aDH ++ (aAv ++ []))))) = true := by kernel_rfl
def aOT : List EM := ([([g0, g21], g4), ([g0, g5], g9)].map fun e : List AV × AV => (275, e)) ++ ([([g0, g15], g4), ([g0, g28], (.aP [g17, g14])), ([g0, (.v (.int .i64 3289))], g9)].map fun e : List AV × AV => (277, e)) ++ ([([g0, g18], g4), ([g0, g29], g9)].map fun e : List AV × AV => (280, e))
theorem aTr : aOT.all (QW gZ .nilIface hp LG 100 (aLX ++ (aI4 ++ (aGy ++ (aDH ++ (aAv ++ [])))))) = true := by kernel_rfl
theorem cLv : [(9, [], AV.v (.bool true))].all (QW gZ .nilIface hp LG 100 (aOT ++ (aLX ++ (aI4 ++ (aGy ++ (aDH ++ (aAv ++ []))))))) = true := by kernel_rfl
theorem aAz {w0 : World} (hst : SS w0) : Same w0 9 #[] (.bool true) :=
 (uY (l := .nilIface) (bJ w0) hst (by rfl) (uY (bJ w0) hst (by rfl) (uY (bJ w0) hst (by rfl) (uY (bJ w0) hst (by rfl) (uY (bJ w0) hst (by rfl) (uY (bJ w0) hst (by rfl) (uY (bJ w0) hst (by rfl) (fun e he => by cases he) aTw) aTv) aTu) aTt) aTs) aTr) cLv _ (List.mem_append_left _ (List.mem_cons_self ..))).2
end Sk
end
section
open Go.ChangeShapes Go.WideShapes Go.ChangeAt Go.RowKit
namespace Un
theorem own : ownKnob Tryz.prog.godebug = none := by kernel_rfl
noncomputable def laidWorld (os : Os) : World :=
 { World.doorLaid Tryz.prog 4000 os with heap := (World.doorLaid Tryz.prog 4000 os).heap.modify 6 fun
  | .cells _ t frozen => .cells ((Go.Pinned.utf8FirstZ.map fun (n : Nat) => Value.int .u8 n).toArray) t frozen
  | o => o }
theorem laid_met (os : Os) (args : Array Value) : laidMetH Tryz.prog Rows.seeksErrorsRow.laid ((laidWorld os).forCall (fun _ _ => 0) ⟨#[], args, []⟩).memory :=
 laidMetH_of_parts3 (fuel := 8) (laidMet_of_run' 8 (by kernel_rfl) (by kernel_rfl)) (by kernel_rfl) (by kernel_rfl)
end Un
end
section
open Go.ChangeShapes Go.WideShapes Go.ChangeAt Go.RowKit
theorem aSb : Tryz.prog.funcs.toList.all (fun f => !f.goes) = true := by kernel_rfl
theorem aJo {P : Program} (h : P.funcs.toList.all (fun f => !f.goes) = true) (f : FuncId) : P.goes f = false := by
 have hall : ∀ fn ∈ P.funcs, Func.goes fn = false := fun fn hf => by
  have := List.all_eq_true.1 h fn (Array.mem_toList_iff.2 hf)
  simpa using this
 have h1 : ∀ g : FuncId, (P.funcs[g]?).any Func.goes = false := fun g => by
  cases hg : P.funcs[g]? with
  | none => rfl
  | some fn => exact hall fn (Array.mem_of_getElem? hg)
 have h2 : P.funcs.any Func.goes = false := by
  rw [Array.any_eq_false']
  intro x hx hc
  rw [hall x hx] at hc; cases hc
 unfold Program.goes
 rw [h2, Bool.and_false, Bool.or_false]
 rw [List.any_eq_false]
 intro g _
 rw [h1 g]; exact Bool.false_ne_true
theorem aDW {P : Program} (h : P.funcs.toList.all (fun f => !f.goes) = true) (c : OpenClaim) (hs : c.start = .entering) : c.goesBy P = false := by
 unfold OpenClaim.goesBy Program.goesAt
 rw [hs]
 simp only [Bool.or_false]
 unfold Program.goesFrom
 cases P.funcNamed c.func with
 | none => rfl
 | some f => exact aJo h f
namespace Facts
theorem wf : (Rows.seeksErrorsRow.wf (OpenSpec.ofChange (OpenSpec.ofChange Rows.seeksErrorsSpec).bare)) = true := by kernel_rfl
theorem laidOut : (laidOutB Tryz.pinned.checked.prog) = true := by kernel_rfl
theorem mapsRowed : (mapsRowed Tryz.pinned.checked.prog) = true := by kernel_rfl
theorem inPlace : (Rows.seeksErrorsRow.inPlace == Tryz.pinned.checked.prog.inPlace 5) = true := by kernel_rfl
theorem unfollowed : (Rows.seeksErrorsRow.unfollowed == Tryz.pinned.checked.prog.unfollowed 5) = true := by kernel_rfl
theorem recurses : (Rows.seeksErrorsRow.recurses == Tryz.pinned.checked.prog.recurses 5) = true := by kernel_rfl
theorem named : (Rows.seeksErrorsRow.named == Tryz.pinned.checked.prog.varsNamed 5) = true := by kernel_rfl
theorem plainKeys : (Rows.seeksErrorsRow.plainKeys == Tryz.pinned.checked.prog.plainKeys) = true := by kernel_rfl
theorem stopsHeard : (Tryz.pinned.checked.prog.stopsHeard) = true := by kernel_rfl
theorem mayEnter : (Tryz.pinned.checked.prog.mayEnter) = true := by kernel_rfl
theorem lifts : (Rows.seeksErrorsRow.lifted == Tryz.pinned.checked.prog.liftsFinal) = true := by kernel_rfl
theorem make : (Tryz.pinned.checked.prog.make == some Rows.seeksErrorsRow.make) = true := by kernel_rfl
theorem bt {a b : Bool} (h : a = true) (h2 : b = true) : (a && b) = true := by rw [h, h2]; rfl
theorem joined : joinedFacts Tryz.pinned.checked.prog 5 Tryz.f5 (OpenSpec.ofChange Rows.seeksErrorsSpec).bare Rows.seeksErrorsRow = true := by
 unfold joinedFacts
 exact (bt (bt (bt (bt (bt (bt (bt (bt (bt (bt (bt (bt (bt (bt (bt (bt (bt (bt (bt (bt (bt (bt (bt (bt (bt (bt (bt (bt (bt (bt (bt wf laidOut) mapsRowed) (by kernel_rfl)) (by kernel_rfl)) (by kernel_rfl)) (by kernel_rfl)) (by kernel_rfl)) (by kernel_rfl)) inPlace) unfollowed) recurses) named) (by kernel_rfl)) (by kernel_rfl)) (by kernel_rfl)) (by kernel_rfl)) (by kernel_rfl)) (by kernel_rfl)) (by kernel_rfl)) (by kernel_rfl)) (by kernel_rfl)) plainKeys) (by kernel_rfl)) stopsHeard) mayEnter) lifts) make) (by kernel_rfl)) (by kernel_rfl)) (by kernel_rfl)) (by kernel_rfl))
theorem goes : false = Rows.seeksErrorsRow.goesBy Tryz.pinned.checked.prog := (aDW aSb _ rfl).symm
end Facts
end
section
theorem wf_i64 {n : Int} (h : (Lit.int .i64 n).wf = true) : -9223372036854775808 <= n /\ n < 9223372036854775808 := by
 have m1 : IntKind.i64.min = -9223372036854775808 := by decide
 have m2 : IntKind.i64.max = 9223372036854775807 := by decide
 simp [Lit.wf, m1, m2] at h; omega
end
section
open Go.ChangeShapes Go.WideShapes Go.ChangeAt Go.RowKit
theorem VJ {H : Type} {enc : TypeId × Value -> H} {C : Checked} {os : Os} {f : FuncId} {fn : Func} {s : OpenSpec} {conds : List PathCond} {apart : Bool} {laid : List (String × DataW Unit)} (w0 : World) (args : Array Value) (hos : w0.os = os)
 (hv : (w0.forCall (fun _ _ => 0) ⟨#[], args, []⟩).variablesRefB C.prog = true)
 (hr : ((w0.forCall (fun _ _ => 0) ⟨#[], args, []⟩).heap.toList.drop C.prog.globals.size).take ((begin C.prog (fun _ _ => 0) default).world.heap.size - C.prog.globals.size) = (begin C.prog (fun _ _ => 0) default).world.heap.toList.drop C.prog.globals.size)
 (hok : Input.okWideB C.prog (w0.forCall (fun _ _ => 0) ⟨#[], args, []⟩) f ⟨#[], args, []⟩ = true)
 (hrow : s.preRow enc C.prog fn conds apart laid (w0.forCall (fun _ _ => 0) ⟨#[], args, []⟩).memory args) :
 ∃ (w : World) (tape : Tape) (i : Input), w.os = os /\ (w.forCall tape i).Shaped C.prog /\ i.vars = [] /\ Input.okWide C.prog (w.forCall tape i) .any w.heap.size f i /\
  s.preRow enc C.prog fn conds apart laid (w.forCall tape i).memory i.args /\ ({ modest := false } : Assume).holds C.prog (lone (Frame.enter C.prog f i.args .normal) [] (w.forCall tape i)) := by
 obtain ⟨w, tape, i, h1, h2, h3, h4, h5, h6, _⟩ := OpenSpec.witness_stopped_atRef (enc := enc) (C := C) (fn := fn) (s := s) (conds := conds) (apart := apart) (laid := laid) false w0 args hos hv hr hok hrow (fun _ _ _ => 0)
 exact ⟨w, tape, i, h1, h2, h3, h4, h5, h6⟩
end
section
open Go.ChangeShapes Go.WideShapes Go.ChangeAt Go.RowKit
theorem LK {H : Type} {W W' : World} (hg : Below W.heap.size W W') {p : MemPlace} (h : p.block < W.heap.size) : W.sameAt W' p := by
 cases p with
 | cell b off => exact hg.cell (p := ⟨b, off, none⟩) h
 | map b => exact hg.block b h
theorem aMD : laidOutB Tryz.prog = true := by kernel_rfl
theorem XP : Tryz.prog.readableRec 44 = true := by kernel_rfl
theorem aJY : 44 < Tryz.prog.types.size := of_decide_eq_true (by kernel_rfl)
theorem uD (H : Type) (enc : TypeId × Value -> H) (W : World) (base : Nat) (args : Array Value) (ds gs : List (DataW H)) (before : List MemPlace)
 (hval : ∀ (j : Nat) t v, Tryz.f5.params[j]? = some t -> args[j]? = some v -> Value.okWide Tryz.prog W .any base t v)
 (hW : DataW.Whole enc Tryz.prog Tryz.f5.params.toList Rows.seeksErrorsSpec.vars false W args.toList ds gs before) (hL : laidMetH Tryz.prog Rows.seeksErrorsRow.laid W) :
 Calls Tryz.prog 5 args W fun e W' => ∃ v, e = .returned v /\ Rows.seeksErrorsSpec.post enc Tryz.prog Tryz.f5 false true false false W args v W' := by
 have hW' := hW
 obtain ⟨p, q, hA0, hV, rfl, hfz, hnd⟩ := hW
 have hA : DataW.TrodAll enc Tryz.prog W 0 (fun _ => true) true Tryz.f5.params.toList args.toList ds p := hA0
 rw [Tryz.params5] at hA hval
 obtain ⟨v0, v1, d0, d1, p0, p1, rfl, rfl, rfl, h0, h1⟩ := trodAll_two hA
 obtain ⟨rfl, rfl⟩ := trodVars_none hV
 obtain ⟨k, bs, n, cp, f, d, q, a, lo, b, hi, rfl, hin⟩ := Sk.aFB (hval 0 44 v0 rfl rfl) h0
 obtain ⟨day, rfl, rfl, rfl, aNz⟩ := open_int Tryz.underlying2 (hval 1 2 v1 rfl rfl) h1
 have hlt : ∀ x ∈ p0, x.block < W.heap.size := fun x hx => DataW.TrodAll.lt hA0 x (List.mem_append_left _ hx)
 clear hA0
 simp only [List.append_nil] at hW'
 have bd := wf_i64 aNz
 refine (Sk.aGF (Ev.BI hL) (Sk.UJ hL) hin bd.1 bd.2 (Sk.aAz (Ev.BI hL)) W (Below.refl _ _)).mono fun e W' ⟨he, hg⟩ => ?_
 subst he
 obtain ⟨m, hm⟩ := h0
 have h0' : DataW.Trod enc Tryz.prog W' 0 (fun b => decide (b < W.heap.size)) true 44 (Sk.fam k (.slice bs n cp) d q a lo b hi) d0 p0 :=
  ⟨m, DataW.trod_stays (kids_book aMD XP) (fun ht hu => book_sized XP ht hu) (fun h => by cases h) ⟨aJY, book_self _⟩ hm (fun x hx => LK (H := H) hg (hlt x hx)) (fun x hx => decide_eq_true (hlt x hx))⟩
 exact ⟨_, rfl, _, _, _, [], p0 ++ [], [], hW', trodAll_mk1 (shut_bool Tryz.underlying4 true), ⟨p0, [], h0', trodAll_mk1 (shut_int Tryz.underlying2 aNz), rfl⟩, rfl, hg.frame _, fun h => by cases h⟩
theorem yX (os : Os) {H : Type} (enc : TypeId × Value -> H) : ∃ places, DataW.whole enc Tryz.prog ((Un.laidWorld os).forCall (fun _ _ => 0) ⟨#[], #[Sk.fam 0 (.slice none 0 0) Sk.z0 0 0 0 0 0, .int .i64 0], []⟩).memory Tryz.f5.params.toList Rows.seeksErrorsSpec.vars false #[Sk.fam 0 (.slice none 0 0) Sk.z0 0 0 0 0 0, .int .i64 0].toList 8 = some ([.agg [.lit (.int .u8 0), .nil, .agg [.agg [.lit (.bool false), .lit (.bool false), .lit (.string []), .lit (.int .i64 0), .lit (.int .i64 0)], .lit (.string []), .lit (.string []), .agg [.lit (.int .u8 0), .lit (.int .u8 0), .lit (.int .u8 0)]], .lit (.int .u8 0), .agg [.agg [.lit (.int .i8 0), .lit (.int .i64 0)], .agg [.lit (.int .i8 0), .lit (.int .i64 0)]]], .lit (.int .i64 0)], [], places) :=
 ⟨[], by kernel_rfl⟩
theorem EO (os : Os) (args : Array Value) : laidMetH Tryz.prog Rows.seeksErrorsRow.laid ((Un.laidWorld os).forCall (fun _ _ => 0) ⟨#[], args, []⟩).memory := by
 exact Un.laid_met os args
theorem xQ (os : Os) (started : os.Started) (H : Type) (enc : TypeId × Value -> H) (F : Stop.Interp) :
 ReturnsInHanded {} Tryz.checked os 5 .any ((OpenSpec.ofChange Rows.seeksErrorsSpec).preRow enc Tryz.prog Tryz.f5 Rows.seeksErrorsRow.domain false Rows.seeksErrorsRow.laid) (((OpenSpec.ofChange Rows.seeksErrorsSpec).at F).post enc Tryz.prog Tryz.f5 false true false false) := by
 obtain ⟨places, hx⟩ := yX os enc
 refine returnsInHanded_of_row (C := Tryz.checked) (s := OpenSpec.ofChange Rows.seeksErrorsSpec) Un.own started (by kernel_rfl) Tryz.func5
  (VJ (enc := enc) (C := Tryz.checked) (Un.laidWorld os) #[Sk.fam 0 (.slice none 0 0) Sk.z0 0 0 0 0 0, .int .i64 0] rfl (by kernel_rfl) (by kernel_rfl) (by kernel_rfl)
    (OpenSpec.preRow_of_cond 8 hx (by kernel_rfl) (fun k hk => by cases hk) (by kernel_rfl) (EO os _))) ?_
 intro W base args ds gs before hval hW _ _ _ hL _ _
 exact uD H enc W base args ds gs before hval hW hL
theorem BM : Rows.SeeksErrorsSaid :=
 OpenClaim.holds_of_cond 5 Tryz.f5 rfl rfl rfl rfl rfl rfl rfl ⟨rfl, rfl, rfl, rfl, rfl⟩ rfl rfl rfl rfl rfl (by kernel_rfl) Tryz.func5 Facts.joined
  (of_decide_eq_true (by kernel_rfl)) (by unfold Func.isWrapper; first | (rw [if_pos (by decide +kernel)]; kernel_rfl) | (rw [if_neg (by decide +kernel)]; exact ⟨rfl, rfl⟩))
  (fun os started H enc _ F => by rw [OpenClaim.pre_eq_preRow]; exact xQ os started H enc F)
theorem yY (f : FuncId) (fn : Func) (hf : Tryz.pinned.checked.prog.funcNamed "circa/circalaw30.SeeksErrors" = some f) (hfn : Tryz.pinned.checked.prog.funcs[f]? = some fn) :
 true = Tryz.pinned.checked.prog.looks [] /\ ∀ (j : Nat) t, fn.params[j]? = some t -> Tryz.pinned.checked.prog.wantsStandIn t = false := by
 obtain rfl : f = 5 := Option.some.inj ((show Tryz.prog.funcNamed "circa/circalaw30.SeeksErrors" = some 5 by kernel_rfl).symm.trans hf) |>.symm
 obtain rfl : fn = Tryz.f5 := (Option.some.inj (Tryz.func5.symm.trans hfn)).symm
 refine ⟨by kernel_rfl, fun j t ht => ?_⟩
 rw [Tryz.params5] at ht
 have hm := Array.mem_of_getElem? ht
 simp only [List.mem_toArray, List.mem_cons, List.not_mem_nil, or_false] at hm
 rcases hm with rfl | rfl
 . exact (show Tryz.prog.wantsStandIn 44 = false by kernel_rfl)
 . exact (show Tryz.prog.wantsStandIn 2 = false by kernel_rfl)
theorem seeksErrors_card : Rows.SeeksErrorsCardSaid :=
 Claim7.holds_tied_plain_at .later [] _ _ _ _ BM (fun _ h => by cases h) (by kernel_rfl) (fun _ h => by cases h) seeksErrors_row_tie rfl ⟨rfl, rfl⟩ (by kernel_rfl) rfl yY Facts.goes
end
end Go.Proofs.YtacggmlngekidaaGreatDoor
