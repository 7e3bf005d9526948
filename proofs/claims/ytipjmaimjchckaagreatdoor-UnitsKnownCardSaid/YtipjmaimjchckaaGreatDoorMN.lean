/- What the rows of layer 23 list gives the walks; a world that holds it. -/
import Derived.Test.YtipjmaimjchckaaGreatDoorMJ
import Derived.Test.YtipjmaimjchckaaGreatDoorMF
import Derived.Test.YtipjmaimjchckaaGreatDoorMK
import Derived.Test.YtipjmaimjchckaaGreatDoorCards
import Derived.Test.YtipjmaimjchckaaGreatDoorTie
import Derived.WalkKit
import Derived.ProofKit
import Derived.OpenShut
import Derived.Deep.DeepHandedRow
import Derived.Lib.LaidTab
import Derived.ChangeAlike
import Derived.LaidMore
import Derived.Test.YtipjmaimjchckaaGreatDoorRows
import Derived.Deep.DeepWitnessRef
import Derived.RowKit
/-! What the rows of layer 23 list gives the walks; a world that holds it. -/
set_option linter.unusedSimpArgs false
set_option linter.unusedVariables false
set_option maxRecDepth 100000
namespace Go.Proofs.YtipjmaimjchckaaGreatDoor
open Go.ChangeShapes Go.WideShapes Go.ChangeAt Go.RowKit
namespace Un
/-- What the list gives the walks. -/
theorem calOk_of_laid {w : World} (hl : laidMet Tryz.prog Rows.unitsKnownRow.laid w) : CalOk w := by
  obtain ⟨ρ, hs⟩ := Ev.start_sat hl (Below.refl _ _) Ev.lay_ok
  rw [Ev.hp_eq] at hs
  have look : ∀ b o, Ev.getH Ev.hp b = some o → (Ev.Hs.mk Ev.hp 14).look [] b = some o := fun b o h => h
  have gl := @Ev.SatH.gl Ev.G0 _ _ _ _ _ hs
  obtain ⟨_, c0, _⟩ := @Ev.SatH.obj Ev.G0 _ _ _ _ _ hs 0 (.ro Ev.k0) (look _ _ (by kernel_rfl))
  obtain ⟨_, c3, _⟩ := @Ev.SatH.obj Ev.G0 _ _ _ _ _ hs 3 (.ro Ev.k3) (look _ _ (by kernel_rfl))
  obtain ⟨_, c13, _⟩ := @Ev.SatH.obj Ev.G0 _ _ _ _ _ hs 13 (.ro Ev.k13) (look _ _ (by kernel_rfl))
  have l0 := gl 0 (by show _ < 11; decide)
  have l3 := gl 3 (by show _ < 11; decide)
  rw [l0.1, l0.2] at c0
  rw [l3.1, l3.2] at c3
  refine ⟨⟨ρ.blk 13, ρ.off 13, c3 0 _ rfl, c13 0 _ rfl, c13 1 _ rfl, c13 2 _ rfl, c13 3 _ rfl, c13 4 _ rfl, c13 5 _ rfl⟩, fun i hi => ?_⟩
  have : i = 0 ∨ i = 1 ∨ i = 2 ∨ i = 3 ∨ i = 4 ∨ i = 5 ∨ i = 6 ∨ i = 7 ∨ i = 8 ∨ i = 9 ∨ i = 10 ∨ i = 11 := by omega
  rcases this with rfl | rfl | rfl | rfl | rfl | rfl | rfl | rfl | rfl | rfl | rfl | rfl
  · exact c0 0 (.v (.int .i64 (ml 0))) rfl
  · exact c0 1 (.v (.int .i64 (ml 1))) rfl
  · exact c0 2 (.v (.int .i64 (ml 2))) rfl
  · exact c0 3 (.v (.int .i64 (ml 3))) rfl
  · exact c0 4 (.v (.int .i64 (ml 4))) rfl
  · exact c0 5 (.v (.int .i64 (ml 5))) rfl
  · exact c0 6 (.v (.int .i64 (ml 6))) rfl
  · exact c0 7 (.v (.int .i64 (ml 7))) rfl
  · exact c0 8 (.v (.int .i64 (ml 8))) rfl
  · exact c0 9 (.v (.int .i64 (ml 9))) rfl
  · exact c0 10 (.v (.int .i64 (ml 10))) rfl
  · exact c0 11 (.v (.int .i64 (ml 11))) rfl

/-- The law of what holds a day, for every input. -/
theorem lawHolding_any (d p : Int) (w : World) (hs : CalOk w) (HL : LivesOk w) (h0 : -9223372036854775808 ≤ d) (h1 : d < 9223372036854775808) (p0 : 0 ≤ p) (p1 : p < 256) :
    Calls Tryz.prog 3 #[.int .i64 d, .int .u8 p] w fun r w' => r = .returned (.bool true) ∧ Below w.heap.size w w' := by
  have HH := fun W c => holding_any d p W c h0 h1 p0 p1
  have HR := fun W => refHolding_any d p W h0 h1
  by_cases he : 0 < (holdAll p d).2.2
  · exact lawHolding_err d p _ _ _ w hs HL he HH HR p0 p1
  · have ez : (holdAll p d).2.2 = 0 := by have := holdAll_err p d; omega
    obtain ⟨x, y, hq⟩ : ∃ x y, holdAll p d = (x, y, 0) := ⟨_, _, Prod.ext rfl (Prod.ext rfl ez)⟩
    have hp : 1 ≤ p ∧ p ≤ 3 := by
      by_cases h : p < 1 ∨ 3 < p
      · unfold holdAll at ez; rw [if_pos h] at ez; exact absurd ez (by decide)
      · omega
    have hp' : ¬ (p < 1 ∨ 3 < p) := by omega
    rw [hq] at HH HR
    obtain ⟨a1, a2, a3, a4⟩ := hold_at hp hq
    have hux := at_unit hp a1
    have hc := isC_unit hux.1
    have xb : -9223372036854775808 ≤ x ∧ x < 9223372036854775808 := by
      rcases a4 with h | h
      · subst h
        have := hq; unfold holdAll holdC at this; rw [if_neg (by omega), if_pos rfl] at this
        simp only [Prod.mk.injEq] at this; omega
      · omega
    have hi0 : (idxC p x).2 = 0 := isC_idx hc hp'
    obtain ⟨i, hi⟩ : ∃ i, idxC p x = (i, 0) := ⟨(idxC p x).1, Prod.ext rfl hi0⟩
    have ib : -9223372036854775808 ≤ i ∧ i < 9223372036854775808 := by
      by_cases p3 : p = 3
      · subst p3
        have e : idxC 3 x = (x, 0) := by unfold idxC; rw [if_neg (by omega), if_neg (by omega)]
        rw [e] at hi; cases hi; exact xb
      · have := idxC_bd p x xb.1 xb.2 p3 hp'; rw [hi] at this; dsimp only at this; omega
    rw [hi] at a1
    have HI := fun W c => unitsIndex_any p 0 x 0 y W c xb.1 xb.2 p0 p1
    have eI : indexC p 0 x 0 y = (i, 0) := by unfold indexC; rw [if_neg hp', if_pos hc, hi]
    rw [eI] at HI
    have HA := fun W c => at_any p i W c ib.1 ib.2 p0 p1
    rw [a1] at HA
    have HX := fun W => refIndex_any p 0 x 0 y W hp' hc
    rw [hi] at HX
    have HS2 := fun W c => is_any p 0 x 0 y W c xb.1 xb.2 p0 p1
    rw [hc] at HS2
    have HN := fun W c => next_any p 0 x 0 y W c xb.1 xb.2 p0 p1
    have HP := fun W c => prev_any p 0 x 0 y W c xb.1 xb.2 p0 p1
    have HB1 := fun W => refBesideN_any p 0 x 0 y W xb.1 xb.2
    have HB2 := fun W => refBesideP_any p 0 x 0 y W xb.1 xb.2
    have bN : besideC p 0 x 0 y 1 9223372036854775807 = if p = 3 ∧ x = 9223372036854775807 then (0, 0, 15) else atC p (i + 1) := by
      unfold besideC; rw [if_neg hp', if_pos hc, hi]
    by_cases hz : (besideC p 0 x 0 y 1 9223372036854775807).2.2 = 0
    · have hno : ¬ (p = 3 ∧ x = 9223372036854775807) := fun h => by rw [bN, if_pos h] at hz; exact absurd hz (by decide)
      rw [bN, if_neg hno] at hz
      obtain ⟨nx, ny, hn⟩ : ∃ nx ny, atC p (i + 1) = (nx, ny, 0) := ⟨_, _, Prod.ext rfl (Prod.ext rfl hz)⟩
      have hnx := at_next hp a1 hn
      subst hnx
      have bN' : besideC p 0 x 0 y 1 9223372036854775807 = (y + 1, ny, 0) := by rw [bN, if_neg hno, hn]
      rw [bN'] at HN HB1
      have hun := at_unit hp hn
      have hcn := isC_unit hun.1
      have yb : y < 9223372036854775807 ∧ -9223372036854775808 ≤ y := by
        rcases a4 with h | h
        · subst h
          have : y = x := by
            have := a1; unfold atC at this; rw [if_neg (by omega), if_pos rfl] at this
            simp only [Prod.mk.injEq] at this; omega
          omega
        · omega
      have HQ := fun W c => prev_any p 0 (y + 1) 0 ny W c (by omega) (by omega) p0 p1
      have bQ : besideC p 0 (y + 1) 0 ny (-1) (-9223372036854775808) = (x, y, 0) := by
        unfold besideC
        rw [if_neg hp', if_pos hcn, hun.2.1, if_neg (by omega)]
        dsimp only
        rw [show i + 1 + -1 = i by omega]; exact a1
      rw [bQ] at HQ
      exact lawHolding_on d p x y i 0 ny 0 _ _ _ w hs HL HH HR HI HA HX HS2 HN HP HB1 HB2 HQ yb.1 yb.2 p0 p1 a2 a3
    · exact lawHolding_end d p x y i _ _ _ _ _ _ w hs HL HH HR HI HA HX HS2 HN HP HB1 HB2 hz p0 p1 a2 a3

/-- The law of runs and indices, for every input. -/
theorem lawArg_any (p a lo b hi i : Int) (w : World) (hs : CalOk w) (HL : LivesOk w) (h0 : -9223372036854775808 ≤ lo) (h1 : lo < 9223372036854775808) (i0 : -9223372036854775808 ≤ i) (i1 : i < 9223372036854775808) (p0 : 0 ≤ p) (p1 : p < 256) :
    Calls Tryz.prog 4 #[rv a lo b hi, .int .u8 p, .int .i64 i] w fun r w' => r = .returned (.bool true) ∧ Below w.heap.size w w' := by
  have HW := fun W => refIs_any p a lo b hi W h0 h1
  have HN := fun W c => next_any p a lo b hi W c h0 h1 p0 p1
  have HP := fun W c => prev_any p a lo b hi W c h0 h1 p0 p1
  have HI := fun W c => unitsIndex_any p a lo b hi W c h0 h1 p0 p1
  have HA := fun W c => at_any p i W c i0 i1 p0 p1
  have HR := fun W => refAt_any p i W i0 i1
  have HS2 := fun W c => is_any p a lo b hi W c h0 h1 p0 p1
  by_cases hp : p < 1 ∨ 3 < p
  · have hc : isC p a lo b hi = false := by
      unfold isC holdAll; rw [if_pos hp]; simp
    rw [hc] at HW HS2
    simp only [Bool.false_eq_true, if_false] at HW
    have e1 : besideC p a lo b hi 1 9223372036854775807 = (0, 0, 18) := by unfold besideC; rw [if_pos hp]
    have e2 : besideC p a lo b hi (-1) (-9223372036854775808) = (0, 0, 18) := by unfold besideC; rw [if_pos hp]
    have e3 : indexC p a lo b hi = (0, 18) := by unfold indexC; rw [if_pos hp]
    rw [e1] at HN; rw [e2] at HP; rw [e3] at HI
    rcases hp with hp | hp
    · exact lawArg_low p lo hi i _ _ _ a b w hs HL HW HN HP HI HA HR HS2 hp p0 p1
    · exact lawArg_high p lo hi i _ _ _ a b w hs HL HW HN HP HI HA HR HS2 hp p0 p1
  · cases hc : isC p a lo b hi with
    | false =>
      rw [hc] at HW HS2
      simp only [Bool.false_eq_true, if_false] at HW
      have e1 : besideC p a lo b hi 1 9223372036854775807 = (0, 0, 1) := by unfold besideC; rw [if_neg hp, hc]; rfl
      have e2 : besideC p a lo b hi (-1) (-9223372036854775808) = (0, 0, 1) := by unfold besideC; rw [if_neg hp, hc]; rfl
      have e3 : indexC p a lo b hi = (0, 1) := by unfold indexC; rw [if_neg hp, hc]; rfl
      rw [e1] at HN; rw [e2] at HP; rw [e3] at HI
      exact lawArg_no p lo hi i _ _ _ a b w hs HL HW HN HP HI HA HR HS2 (by omega) (by omega) p0 p1
    | true =>
      obtain ⟨rfl, rfl, _⟩ := isC_hold hc
      rw [hc] at HW HS2
      simp only [if_true] at HW
      have hi0 : (idxC p lo).2 = 0 := isC_idx hc hp
      have e3 : indexC p 0 lo 0 hi = ((idxC p lo).1, 0) := by unfold indexC; rw [if_neg hp, hc]; exact Prod.ext rfl hi0
      rw [e3] at HI
      exact lawArg_unit p lo hi i _ _ _ _ _ _ _ _ _ _ w hs HL HW HN HP HI HA HR HS2 (fun W => refIndex_any p 0 lo 0 hi W hp hc) p0 p1
end Un
end Go.Proofs.YtipjmaimjchckaaGreatDoor

/-! A world for a row that lists variables: one in which a listed variable may hold an address. -/
set_option linter.unusedVariables false
namespace Go.Proofs.YtipjmaimjchckaaGreatDoor
open Go.ChangeShapes Go.WideShapes Go.ChangeAt Go.RowKit
theorem row_witness {H : Type} {enc : TypeId × Value → H} {C : Checked} {os : Os} {f : FuncId} {fn : Func} {s : OpenSpec} {conds : List PathCond} {apart : Bool} {laid : List (String × DataW Unit)} (w0 : World) (args : Array Value) (hos : w0.os = os)
    (hv : (w0.forCall (fun _ _ => 0) ⟨#[], args, []⟩).variablesRefB C.prog = true)
    (hr : ((w0.forCall (fun _ _ => 0) ⟨#[], args, []⟩).heap.toList.drop C.prog.globals.size).take ((begin C.prog (fun _ _ => 0) default).world.heap.size - C.prog.globals.size) = (begin C.prog (fun _ _ => 0) default).world.heap.toList.drop C.prog.globals.size)
    (hok : Input.okWideB C.prog (w0.forCall (fun _ _ => 0) ⟨#[], args, []⟩) f ⟨#[], args, []⟩ = true)
    (hrow : s.preRow enc C.prog fn conds apart laid (w0.forCall (fun _ _ => 0) ⟨#[], args, []⟩).memory args) :
    ∃ (w : World) (tape : Tape) (i : Input), w.os = os ∧ (w.forCall tape i).Shaped C.prog ∧ i.vars = [] ∧ Input.okWide C.prog (w.forCall tape i) .any w.heap.size f i ∧
      s.preRow enc C.prog fn conds apart laid (w.forCall tape i).memory i.args ∧ ({ modest := false } : Assume).holds C.prog (lone (Frame.enter C.prog f i.args .normal) [] (w.forCall tape i)) := by
  obtain ⟨w, tape, i, h1, h2, h3, h4, h5, h6, _⟩ := OpenSpec.witness_stopped_atRef (enc := enc) (C := C) (fn := fn) (s := s) (conds := conds) (apart := apart) (laid := laid) false w0 args hos hv hr hok hrow (fun _ _ _ => 0)
  exact ⟨w, tape, i, h1, h2, h3, h4, h5, h6⟩
end Go.Proofs.YtipjmaimjchckaaGreatDoor

/-! Small facts that join a law's walk to its statement: the program's own knob, the ranges of plain arguments. -/
set_option linter.unusedSimpArgs false
set_option linter.unusedVariables false
namespace Go.Proofs.YtipjmaimjchckaaGreatDoor


theorem wf_f64 {b : Nat} (h : (Lit.float .f64 b).wf = true) : b < 18446744073709551616 := by
  simpa [Lit.wf] using h
theorem wf_i64 {n : Int} (h : (Lit.int .i64 n).wf = true) : -9223372036854775808 ≤ n ∧ n < 9223372036854775808 := by
  have m1 : IntKind.i64.min = -9223372036854775808 := by decide
  have m2 : IntKind.i64.max = 9223372036854775807 := by decide
  simp [Lit.wf, m1, m2] at h; omega
theorem wf_u8 {n : Int} (h : (Lit.int .u8 n).wf = true) : 0 ≤ n ∧ n < 256 := by
  have m1 : IntKind.u8.min = 0 := by decide
  have m2 : IntKind.u8.max = 255 := by decide
  simp [Lit.wf, m1, m2] at h; omega
theorem wf_u16 {n : Int} (h : (Lit.int .u16 n).wf = true) : 0 ≤ n ∧ n < 65536 := by
  have m1 : IntKind.u16.min = 0 := by decide
  have m2 : IntKind.u16.max = 65535 := by decide
  simp [Lit.wf, m1, m2] at h; omega
end Go.Proofs.YtipjmaimjchckaaGreatDoor

