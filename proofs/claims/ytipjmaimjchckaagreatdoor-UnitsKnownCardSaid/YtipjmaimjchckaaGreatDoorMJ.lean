/- THE WALK of the law UnitsHolding. -/
import Derived.Test.YtipjmaimjchckaaGreatDoorMI
/-! THE WALK of the law UnitsHolding. -/
set_option linter.unusedSimpArgs false
set_option linter.unusedVariables false
namespace Go.Proofs.YtipjmaimjchckaaGreatDoor
open Go.RowKit
namespace Un
open Cal

/-- The examples are right in every later world. -/
abbrev LivesOk (w : World) : Prop := ∀ W, Below w.heap.size w W → Calls Tryz.prog 10 #[] W fun e w' => e = .returned (.bool true) ∧ Below W.heap.size W w'

set_option maxHeartbeats 1000000 in
set_option maxRecDepth 8000 in
theorem lawHolding_err (d p x y e : Int) (w : World) (hs : CalOk w) (HL : LivesOk w) (he : 0 < e)
    (HH : ∀ W, CalOk W → Calls Tryz.prog 8 #[.int .i64 d, .int .u8 p] W fun r w' => r = .returned (.tuple #[rv 0 x 0 y, .int .i64 e]) ∧ Below W.heap.size W w')
    (HR : ∀ W, Calls Tryz.prog 9 #[.int .i64 d, .int .i64 p] W fun r w' => r = .returned (.tuple #[rv 0 x 0 y, .int .i64 e]) ∧ Below W.heap.size W w')
    (p0 : 0 ≤ p) (p1 : p < 256) :
    Calls Tryz.prog 3 #[.int .i64 d, .int .u8 p] w fun r w' => r = .returned (.bool true) ∧ Below w.heap.size w w' := by
  have HS := Lib.hid hs; clear hs
  replace HL := Lib.hid HL
  unfold rv at HH HR
  replace HH := Lib.hid HH; replace HR := Lib.hid HR
  go_enter Tryz.func3, Tryz.ntmps3
  go_wp2_with fail
  refine (HH.out _ HS.out).mono ?_; rintro _ w1 ⟨rfl, hb1⟩
  go_wp2_with fail
  refine (HR.out _).mono ?_; rintro _ w2 ⟨rfl, hb2⟩
  have H1 := ba hb2 (.cells #[.int .i8 0, .int .i64 x, .int .i8 0, .int .i64 y] 26)
  obtain ⟨q0, q1, q2, q3, z0, z1, z2, z3⟩ := run_cells H1
  go_wp2_with fail
  refine (HL.out _ (bt (ba hb1 _) H1)).mono ?_; rintro _ w3 ⟨rfl, hb3⟩
  go_wp2_with fail
  go_ret
  exact ⟨rfl, bt (bt (ba hb1 _) H1) hb3⟩

set_option maxHeartbeats 4000000 in
set_option maxRecDepth 8000 in
theorem lawHolding_end (d p x y i nx ny ne px py pe : Int) (w : World) (hs : CalOk w) (HL : LivesOk w)
    (HH : ∀ W, CalOk W → Calls Tryz.prog 8 #[.int .i64 d, .int .u8 p] W fun r w' => r = .returned (.tuple #[rv 0 x 0 y, .int .i64 0]) ∧ Below W.heap.size W w')
    (HR : ∀ W, Calls Tryz.prog 9 #[.int .i64 d, .int .i64 p] W fun r w' => r = .returned (.tuple #[rv 0 x 0 y, .int .i64 0]) ∧ Below W.heap.size W w')
    (HI : ∀ W, CalOk W → Calls Tryz.prog 11 #[rv 0 x 0 y, .int .u8 p] W fun r w' => r = .returned (.tuple #[.int .i64 i, .int .i64 0]) ∧ Below W.heap.size W w')
    (HA : ∀ W, CalOk W → Calls Tryz.prog 12 #[.int .i64 i, .int .u8 p] W fun r w' => r = .returned (.tuple #[rv 0 x 0 y, .int .i64 0]) ∧ Below W.heap.size W w')
    (HX : ∀ W, Calls Tryz.prog 13 #[rv 0 x 0 y, .int .i64 p] W fun r w' => r = .returned (.int .i64 i) ∧ Below W.heap.size W w')
    (HS2 : ∀ W, CalOk W → Calls Tryz.prog 14 #[rv 0 x 0 y, .int .u8 p] W fun r w' => r = .returned (.bool true) ∧ Below W.heap.size W w')
    (HN : ∀ W, CalOk W → Calls Tryz.prog 15 #[rv 0 x 0 y, .int .u8 p] W fun r w' => r = .returned (.tuple #[rv 0 nx 0 ny, .int .i64 ne]) ∧ Below W.heap.size W w')
    (HP : ∀ W, CalOk W → Calls Tryz.prog 16 #[rv 0 x 0 y, .int .u8 p] W fun r w' => r = .returned (.tuple #[rv 0 px 0 py, .int .i64 pe]) ∧ Below W.heap.size W w')
    (HB1 : ∀ W, Calls Tryz.prog 17 #[rv 0 x 0 y, .int .i64 p, .int .i64 1] W fun r w' => r = .returned (.tuple #[rv 0 nx 0 ny, .int .i64 ne]) ∧ Below W.heap.size W w')
    (HB2 : ∀ W, Calls Tryz.prog 17 #[rv 0 x 0 y, .int .i64 p, .int .i64 (-1)] W fun r w' => r = .returned (.tuple #[rv 0 px 0 py, .int .i64 pe]) ∧ Below W.heap.size W w')
    (he : ne ≠ 0)
    (p0 : 0 ≤ p) (p1 : p < 256) (h0 : x ≤ d) (h1 : d ≤ y) :
    Calls Tryz.prog 3 #[.int .i64 d, .int .u8 p] w fun r w' => r = .returned (.bool true) ∧ Below w.heap.size w w' := by
  have HS := Lib.hid hs; clear hs
  replace HL := Lib.hid HL
  unfold rv at HH HR HI HA HX HS2 HN HP HB1 HB2
  replace HH := Lib.hid HH; replace HR := Lib.hid HR; replace HI := Lib.hid HI; replace HA := Lib.hid HA; replace HX := Lib.hid HX; replace HS2 := Lib.hid HS2; replace HN := Lib.hid HN; replace HP := Lib.hid HP; replace HB1 := Lib.hid HB1; replace HB2 := Lib.hid HB2
  have te : (ne == 0) = false := by rw [beq_eq_false_iff_ne]; exact he
  clear he
  go_enter Tryz.func3, Tryz.ntmps3
  go_wp2_with fail
  refine (HH.out _ HS.out).mono ?_; rintro _ w1 ⟨rfl, hb1⟩
  have HW := Lib.hid (ba hb1 (.cells #[.int .i8 0, .int .i64 x, .int .i8 0, .int .i64 y] 26))
  go_wp2_with fail
  refine (HR.out _).mono ?_; rintro _ w2 ⟨rfl, hb2⟩
  have Hr := Lib.hid (ba hb2 (.cells #[.int .i8 0, .int .i64 x, .int .i8 0, .int .i64 y] 26))
  obtain ⟨q0, q1, q2, q3, z0, z1, z2, z3⟩ := run_cells Hr.out
  go_wp2_with fail
  refine (HI.out _ (HS.out.below (bt HW.out Hr.out))).mono ?_; rintro _ w3 ⟨rfl, hb3⟩
  clear q0 q1 q2 q3 z0 z1 z2 z3
  replace Hr := Lib.hid (bt Hr.out hb3); clear hb3
  obtain ⟨q0, q1, q2, q3, z0, z1, z2, z3⟩ := run_cells Hr.out
  go_wp2_with fail
  refine (HA.out _ (HS.out.below (bt HW.out Hr.out))).mono ?_; rintro _ w4 ⟨rfl, hb4⟩
  clear q0 q1 q2 q3 z0 z1 z2 z3
  replace Hr := Lib.hid (ba (bt Hr.out hb4) (.cells #[.int .i8 0, .int .i64 x, .int .i8 0, .int .i64 y] 26)); clear hb4
  obtain ⟨q0, q1, q2, q3, z0, z1, z2, z3⟩ := run_cells Hr.out
  go_wp2_with fail
  refine (HX.out _).mono ?_; rintro _ w5 ⟨rfl, hb5⟩
  clear q0 q1 q2 q3 z0 z1 z2 z3
  replace Hr := Lib.hid (bt Hr.out hb5)
  have Hk := Lib.hid hb5; clear hb5
  obtain ⟨q0, q1, q2, q3, z0, z1, z2, z3⟩ := run_cells Hr.out
  obtain ⟨a0, a1, a2, a3, c0, c1, c2, c3⟩ := run_cells Hk.out
  go_wp2_with fail
  refine (HS2.out _ (HS.out.below (bt HW.out Hr.out))).mono ?_; rintro _ w6 ⟨rfl, hb6⟩
  clear q0 q1 q2 q3 z0 z1 z2 z3 a0 a1 a2 a3 c0 c1 c2 c3 Hk
  replace Hr := Lib.hid (bt Hr.out hb6); clear hb6
  obtain ⟨q0, q1, q2, q3, z0, z1, z2, z3⟩ := run_cells Hr.out
  go_wp2_with fail
  refine (HN.out _ (HS.out.below (bt HW.out Hr.out))).mono ?_; rintro _ w7 ⟨rfl, hb7⟩
  clear q0 q1 q2 q3 z0 z1 z2 z3
  replace Hr := Lib.hid (ba (bt Hr.out hb7) (.cells #[.int .i8 0, .int .i64 nx, .int .i8 0, .int .i64 ny] 26)); clear hb7
  obtain ⟨q0, q1, q2, q3, z0, z1, z2, z3⟩ := run_cells Hr.out
  go_wp2_with fail
  refine (HP.out _ (HS.out.below (bt HW.out Hr.out))).mono ?_; rintro _ w8 ⟨rfl, hb8⟩
  clear q0 q1 q2 q3 z0 z1 z2 z3
  replace Hr := Lib.hid (ba (bt Hr.out hb8) (.cells #[.int .i8 0, .int .i64 px, .int .i8 0, .int .i64 py] 26))
  have Hn := Lib.hid (ba hb8 (.cells #[.int .i8 0, .int .i64 px, .int .i8 0, .int .i64 py] 26)); clear hb8
  obtain ⟨q0, q1, q2, q3, z0, z1, z2, z3⟩ := run_cells Hr.out
  go_wp2_with fail
  refine (HB1.out _).mono ?_; rintro _ w9 ⟨rfl, hb9⟩
  clear q0 q1 q2 q3 z0 z1 z2 z3
  replace Hr := Lib.hid (ba (bt Hr.out hb9) (.cells #[.int .i8 0, .int .i64 nx, .int .i8 0, .int .i64 ny] 26))
  replace Hn := Lib.hid (ba (bt Hn.out hb9) (.cells #[.int .i8 0, .int .i64 nx, .int .i8 0, .int .i64 ny] 26))
  have Hp := Lib.hid (ba hb9 (.cells #[.int .i8 0, .int .i64 nx, .int .i8 0, .int .i64 ny] 26)); clear hb9
  obtain ⟨q0, q1, q2, q3, z0, z1, z2, z3⟩ := run_cells Hr.out
  go_wp2_with fail
  refine (HB2.out _).mono ?_; rintro _ w10 ⟨rfl, hb10⟩
  clear q0 q1 q2 q3 z0 z1 z2 z3
  replace Hr := Lib.hid (ba (bt Hr.out hb10) (.cells #[.int .i8 0, .int .i64 px, .int .i8 0, .int .i64 py] 26))
  replace Hn := Lib.hid (ba (bt Hn.out hb10) (.cells #[.int .i8 0, .int .i64 px, .int .i8 0, .int .i64 py] 26))
  replace Hp := Lib.hid (ba (bt Hp.out hb10) (.cells #[.int .i8 0, .int .i64 px, .int .i8 0, .int .i64 py] 26))
  have Ha := Lib.hid (ba hb10 (.cells #[.int .i8 0, .int .i64 px, .int .i8 0, .int .i64 py] 26)); clear hb10
  obtain ⟨q0, q1, q2, q3, z0, z1, z2, z3⟩ := run_cells Hr.out
  obtain ⟨a0, a1, a2, a3, c0, c1, c2, c3⟩ := run_cells Hn.out
  obtain ⟨d0, d1, d2, d3, e0, e1, e2, e3⟩ := run_cells Hp.out
  obtain ⟨f0, f1, f2, f3, g0, g1, g2, g3⟩ := run_cells Ha.out
  go_wp2_with fail
  refine (HL.out _ (bt HW.out Hr.out)).mono ?_; rintro _ w11 ⟨rfl, hb11⟩
  clear q0 q1 q2 q3 z0 z1 z2 z3 a0 a1 a2 a3 c0 c1 c2 c3 d0 d1 d2 d3 e0 e1 e2 e3 f0 f1 f2 f3 g0 g1 g2 g3
  go_wp2_with fail
  go_ret
  exact ⟨rfl, bt (bt HW.out Hr.out) hb11⟩

set_option maxHeartbeats 4000000 in
set_option maxRecDepth 8000 in
theorem lawHolding_on (d p x y i nx ny ne px py pe : Int) (w : World) (hs : CalOk w) (HL : LivesOk w)
    (HH : ∀ W, CalOk W → Calls Tryz.prog 8 #[.int .i64 d, .int .u8 p] W fun r w' => r = .returned (.tuple #[rv 0 x 0 y, .int .i64 0]) ∧ Below W.heap.size W w')
    (HR : ∀ W, Calls Tryz.prog 9 #[.int .i64 d, .int .i64 p] W fun r w' => r = .returned (.tuple #[rv 0 x 0 y, .int .i64 0]) ∧ Below W.heap.size W w')
    (HI : ∀ W, CalOk W → Calls Tryz.prog 11 #[rv 0 x 0 y, .int .u8 p] W fun r w' => r = .returned (.tuple #[.int .i64 i, .int .i64 0]) ∧ Below W.heap.size W w')
    (HA : ∀ W, CalOk W → Calls Tryz.prog 12 #[.int .i64 i, .int .u8 p] W fun r w' => r = .returned (.tuple #[rv 0 x 0 y, .int .i64 0]) ∧ Below W.heap.size W w')
    (HX : ∀ W, Calls Tryz.prog 13 #[rv 0 x 0 y, .int .i64 p] W fun r w' => r = .returned (.int .i64 i) ∧ Below W.heap.size W w')
    (HS2 : ∀ W, CalOk W → Calls Tryz.prog 14 #[rv 0 x 0 y, .int .u8 p] W fun r w' => r = .returned (.bool true) ∧ Below W.heap.size W w')
    (HN : ∀ W, CalOk W → Calls Tryz.prog 15 #[rv 0 x 0 y, .int .u8 p] W fun r w' => r = .returned (.tuple #[rv 0 (y + 1) 0 ny, .int .i64 0]) ∧ Below W.heap.size W w')
    (HP : ∀ W, CalOk W → Calls Tryz.prog 16 #[rv 0 x 0 y, .int .u8 p] W fun r w' => r = .returned (.tuple #[rv 0 px 0 py, .int .i64 pe]) ∧ Below W.heap.size W w')
    (HB1 : ∀ W, Calls Tryz.prog 17 #[rv 0 x 0 y, .int .i64 p, .int .i64 1] W fun r w' => r = .returned (.tuple #[rv 0 (y + 1) 0 ny, .int .i64 0]) ∧ Below W.heap.size W w')
    (HB2 : ∀ W, Calls Tryz.prog 17 #[rv 0 x 0 y, .int .i64 p, .int .i64 (-1)] W fun r w' => r = .returned (.tuple #[rv 0 px 0 py, .int .i64 pe]) ∧ Below W.heap.size W w')
    (HQ : ∀ W, CalOk W → Calls Tryz.prog 16 #[rv 0 (y + 1) 0 ny, .int .u8 p] W fun r w' => r = .returned (.tuple #[rv 0 x 0 y, .int .i64 0]) ∧ Below W.heap.size W w')
    (h2 : y < 9223372036854775807) (h3 : -9223372036854775808 ≤ y)
    (p0 : 0 ≤ p) (p1 : p < 256) (h0 : x ≤ d) (h1 : d ≤ y) :
    Calls Tryz.prog 3 #[.int .i64 d, .int .u8 p] w fun r w' => r = .returned (.bool true) ∧ Below w.heap.size w w' := by
  have HS := Lib.hid hs; clear hs
  replace HL := Lib.hid HL
  unfold rv at HH HR HI HA HX HS2 HN HP HB1 HB2 HQ
  replace HH := Lib.hid HH; replace HR := Lib.hid HR; replace HI := Lib.hid HI; replace HA := Lib.hid HA; replace HX := Lib.hid HX; replace HS2 := Lib.hid HS2; replace HN := Lib.hid HN; replace HP := Lib.hid HP; replace HB1 := Lib.hid HB1; replace HB2 := Lib.hid HB2
  replace HQ := Lib.hid HQ
  go_enter Tryz.func3, Tryz.ntmps3
  go_wp2_with fail
  refine (HH.out _ HS.out).mono ?_; rintro _ w1 ⟨rfl, hb1⟩
  have HW := Lib.hid (ba hb1 (.cells #[.int .i8 0, .int .i64 x, .int .i8 0, .int .i64 y] 26))
  go_wp2_with fail
  refine (HR.out _).mono ?_; rintro _ w2 ⟨rfl, hb2⟩
  have Hr := Lib.hid (ba hb2 (.cells #[.int .i8 0, .int .i64 x, .int .i8 0, .int .i64 y] 26))
  obtain ⟨q0, q1, q2, q3, z0, z1, z2, z3⟩ := run_cells Hr.out
  go_wp2_with fail
  refine (HI.out _ (HS.out.below (bt HW.out Hr.out))).mono ?_; rintro _ w3 ⟨rfl, hb3⟩
  clear q0 q1 q2 q3 z0 z1 z2 z3
  replace Hr := Lib.hid (bt Hr.out hb3); clear hb3
  obtain ⟨q0, q1, q2, q3, z0, z1, z2, z3⟩ := run_cells Hr.out
  go_wp2_with fail
  refine (HA.out _ (HS.out.below (bt HW.out Hr.out))).mono ?_; rintro _ w4 ⟨rfl, hb4⟩
  clear q0 q1 q2 q3 z0 z1 z2 z3
  replace Hr := Lib.hid (ba (bt Hr.out hb4) (.cells #[.int .i8 0, .int .i64 x, .int .i8 0, .int .i64 y] 26)); clear hb4
  obtain ⟨q0, q1, q2, q3, z0, z1, z2, z3⟩ := run_cells Hr.out
  go_wp2_with fail
  refine (HX.out _).mono ?_; rintro _ w5 ⟨rfl, hb5⟩
  clear q0 q1 q2 q3 z0 z1 z2 z3
  replace Hr := Lib.hid (bt Hr.out hb5)
  have Hk := Lib.hid hb5; clear hb5
  obtain ⟨q0, q1, q2, q3, z0, z1, z2, z3⟩ := run_cells Hr.out
  obtain ⟨a0, a1, a2, a3, c0, c1, c2, c3⟩ := run_cells Hk.out
  go_wp2_with fail
  refine (HS2.out _ (HS.out.below (bt HW.out Hr.out))).mono ?_; rintro _ w6 ⟨rfl, hb6⟩
  clear q0 q1 q2 q3 z0 z1 z2 z3 a0 a1 a2 a3 c0 c1 c2 c3 Hk
  replace Hr := Lib.hid (bt Hr.out hb6); clear hb6
  obtain ⟨q0, q1, q2, q3, z0, z1, z2, z3⟩ := run_cells Hr.out
  go_wp2_with fail
  refine (HN.out _ (HS.out.below (bt HW.out Hr.out))).mono ?_; rintro _ w7 ⟨rfl, hb7⟩
  clear q0 q1 q2 q3 z0 z1 z2 z3
  replace Hr := Lib.hid (ba (bt Hr.out hb7) (.cells #[.int .i8 0, .int .i64 (y + 1), .int .i8 0, .int .i64 ny] 26)); clear hb7
  obtain ⟨q0, q1, q2, q3, z0, z1, z2, z3⟩ := run_cells Hr.out
  go_wp2_with fail
  refine (HP.out _ (HS.out.below (bt HW.out Hr.out))).mono ?_; rintro _ w8 ⟨rfl, hb8⟩
  clear q0 q1 q2 q3 z0 z1 z2 z3
  replace Hr := Lib.hid (ba (bt Hr.out hb8) (.cells #[.int .i8 0, .int .i64 px, .int .i8 0, .int .i64 py] 26))
  have Hn := Lib.hid (ba hb8 (.cells #[.int .i8 0, .int .i64 px, .int .i8 0, .int .i64 py] 26)); clear hb8
  obtain ⟨q0, q1, q2, q3, z0, z1, z2, z3⟩ := run_cells Hr.out
  go_wp2_with fail
  refine (HB1.out _).mono ?_; rintro _ w9 ⟨rfl, hb9⟩
  clear q0 q1 q2 q3 z0 z1 z2 z3
  replace Hr := Lib.hid (ba (bt Hr.out hb9) (.cells #[.int .i8 0, .int .i64 (y + 1), .int .i8 0, .int .i64 ny] 26))
  replace Hn := Lib.hid (ba (bt Hn.out hb9) (.cells #[.int .i8 0, .int .i64 (y + 1), .int .i8 0, .int .i64 ny] 26))
  have Hp := Lib.hid (ba hb9 (.cells #[.int .i8 0, .int .i64 (y + 1), .int .i8 0, .int .i64 ny] 26)); clear hb9
  obtain ⟨q0, q1, q2, q3, z0, z1, z2, z3⟩ := run_cells Hr.out
  go_wp2_with fail
  refine (HB2.out _).mono ?_; rintro _ w10 ⟨rfl, hb10⟩
  clear q0 q1 q2 q3 z0 z1 z2 z3
  replace Hr := Lib.hid (ba (bt Hr.out hb10) (.cells #[.int .i8 0, .int .i64 px, .int .i8 0, .int .i64 py] 26))
  replace Hn := Lib.hid (ba (bt Hn.out hb10) (.cells #[.int .i8 0, .int .i64 px, .int .i8 0, .int .i64 py] 26))
  replace Hp := Lib.hid (ba (bt Hp.out hb10) (.cells #[.int .i8 0, .int .i64 px, .int .i8 0, .int .i64 py] 26))
  have Ha := Lib.hid (ba hb10 (.cells #[.int .i8 0, .int .i64 px, .int .i8 0, .int .i64 py] 26)); clear hb10
  obtain ⟨q0, q1, q2, q3, z0, z1, z2, z3⟩ := run_cells Hr.out
  obtain ⟨a0, a1, a2, a3, c0, c1, c2, c3⟩ := run_cells Hn.out
  obtain ⟨d0, d1, d2, d3, e0, e1, e2, e3⟩ := run_cells Hp.out
  obtain ⟨f0, f1, f2, f3, g0, g1, g2, g3⟩ := run_cells Ha.out
  go_wp2_with fail
  refine (HQ.out _ (HS.out.below (bt HW.out Hr.out))).mono ?_; rintro _ w11 ⟨rfl, hb11⟩
  clear q0 q1 q2 q3 z0 z1 z2 z3 a0 a1 a2 a3 c0 c1 c2 c3 d0 d1 d2 d3 e0 e1 e2 e3 f0 f1 f2 f3 g0 g1 g2 g3
  replace Hr := Lib.hid (ba (bt Hr.out hb11) (.cells #[.int .i8 0, .int .i64 x, .int .i8 0, .int .i64 y] 26))
  replace Hn := Lib.hid (ba (bt Hn.out hb11) (.cells #[.int .i8 0, .int .i64 x, .int .i8 0, .int .i64 y] 26))
  clear hb11
  obtain ⟨q0, q1, q2, q3, z0, z1, z2, z3⟩ := run_cells Hr.out
  obtain ⟨a0, a1, a2, a3, c0, c1, c2, c3⟩ := run_cells Hn.out
  go_wp2_with fail
  refine (HL.out _ (bt HW.out Hr.out)).mono ?_; rintro _ w12 ⟨rfl, hb12⟩
  clear q0 q1 q2 q3 z0 z1 z2 z3 a0 a1 a2 a3 c0 c1 c2 c3
  go_wp2_with fail
  go_ret
  exact ⟨rfl, bt (bt HW.out Hr.out) hb12⟩
end Un
end Go.Proofs.YtipjmaimjchckaaGreatDoor

/-! THE WALK of the law UnitsArg. -/
set_option linter.unusedSimpArgs false
set_option linter.unusedVariables false
namespace Go.Proofs.YtipjmaimjchckaaGreatDoor
open Go.RowKit
namespace Un
open Cal

set_option maxHeartbeats 4000000 in
set_option maxRecDepth 8000 in
theorem lawArg_unit (p lo hi i ux uy ue n nx ny ne px py pe : Int) (w : World) (hs : CalOk w) (HL : LivesOk w)
    (HW : ∀ W, Calls Tryz.prog 18 #[rv 0 lo 0 hi, .int .i64 p] W fun r w' => r = .returned (.int .i64 1) ∧ Below W.heap.size W w')
    (HN : ∀ W, CalOk W → Calls Tryz.prog 15 #[rv 0 lo 0 hi, .int .u8 p] W fun r w' => r = .returned (.tuple #[rv 0 nx 0 ny, .int .i64 ne]) ∧ Below W.heap.size W w')
    (HP : ∀ W, CalOk W → Calls Tryz.prog 16 #[rv 0 lo 0 hi, .int .u8 p] W fun r w' => r = .returned (.tuple #[rv 0 px 0 py, .int .i64 pe]) ∧ Below W.heap.size W w')
    (HI : ∀ W, CalOk W → Calls Tryz.prog 11 #[rv 0 lo 0 hi, .int .u8 p] W fun r w' => r = .returned (.tuple #[.int .i64 n, .int .i64 0]) ∧ Below W.heap.size W w')
    (HA : ∀ W, CalOk W → Calls Tryz.prog 12 #[.int .i64 i, .int .u8 p] W fun r w' => r = .returned (.tuple #[rv 0 ux 0 uy, .int .i64 ue]) ∧ Below W.heap.size W w')
    (HR : ∀ W, Calls Tryz.prog 19 #[.int .i64 i, .int .i64 p] W fun r w' => r = .returned (.tuple #[rv 0 ux 0 uy, .int .i64 ue]) ∧ Below W.heap.size W w')
    (HS2 : ∀ W, CalOk W → Calls Tryz.prog 14 #[rv 0 lo 0 hi, .int .u8 p] W fun r w' => r = .returned (.bool true) ∧ Below W.heap.size W w')
    (HX : ∀ W, Calls Tryz.prog 13 #[rv 0 lo 0 hi, .int .i64 p] W fun r w' => r = .returned (.int .i64 n) ∧ Below W.heap.size W w')
    (p0 : 0 ≤ p) (p1 : p < 256) :
    Calls Tryz.prog 4 #[rv 0 lo 0 hi, .int .u8 p, .int .i64 i] w fun r w' => r = .returned (.bool true) ∧ Below w.heap.size w w' := by
  have HS := Lib.hid hs; clear hs
  replace HL := Lib.hid HL
  unfold rv at HW HN HP HI HA HR HS2 HX
  unfold rv
  replace HW := Lib.hid HW
  replace HN := Lib.hid HN
  replace HP := Lib.hid HP
  replace HI := Lib.hid HI
  replace HA := Lib.hid HA
  replace HR := Lib.hid HR
  replace HS2 := Lib.hid HS2
  replace HX := Lib.hid HX
  go_enter Tryz.func4, Tryz.ntmps4
  go_wp2_with fail
  have HW0 := Lib.hid (ba (Below.refl w.heap.size w) (.cells #[.int .i8 0, .int .i64 lo, .int .i8 0, .int .i64 hi] 26))
  refine (HW.out _).mono ?_; rintro _ w1 ⟨rfl, hb1⟩
  have Hr := Lib.hid hb1; clear hb1
  obtain ⟨q0, q1, q2, q3, z0, z1, z2, z3⟩ := run_cells Hr.out
  go_wp2_with fail
  refine (HN.out _ (HS.out.below (bt HW0.out Hr.out))).mono ?_; rintro _ w2 ⟨rfl, hb2⟩
  clear q0 q1 q2 q3 z0 z1 z2 z3
  replace Hr := Lib.hid (ba (bt Hr.out hb2) (.cells #[.int .i8 0, .int .i64 nx, .int .i8 0, .int .i64 ny] 26)); clear hb2
  obtain ⟨q0, q1, q2, q3, z0, z1, z2, z3⟩ := run_cells Hr.out
  go_wp2_with fail
  refine (HP.out _ (HS.out.below (bt HW0.out Hr.out))).mono ?_; rintro _ w3 ⟨rfl, hb3⟩
  clear q0 q1 q2 q3 z0 z1 z2 z3
  replace Hr := Lib.hid (ba (bt Hr.out hb3) (.cells #[.int .i8 0, .int .i64 px, .int .i8 0, .int .i64 py] 26))
  have Hn := Lib.hid (ba hb3 (.cells #[.int .i8 0, .int .i64 px, .int .i8 0, .int .i64 py] 26)); clear hb3
  obtain ⟨q0, q1, q2, q3, z0, z1, z2, z3⟩ := run_cells Hr.out
  go_wp2_with fail
  refine (HI.out _ (HS.out.below (bt HW0.out Hr.out))).mono ?_; rintro _ w4 ⟨rfl, hb4⟩
  clear q0 q1 q2 q3 z0 z1 z2 z3
  replace Hr := Lib.hid (bt Hr.out hb4)
  replace Hn := Lib.hid (bt Hn.out hb4)
  have Hp := Lib.hid hb4; clear hb4
  obtain ⟨q0, q1, q2, q3, z0, z1, z2, z3⟩ := run_cells Hr.out
  go_wp2_with fail
  refine (HA.out _ (HS.out.below (bt HW0.out Hr.out))).mono ?_; rintro _ w5 ⟨rfl, hb5⟩
  clear q0 q1 q2 q3 z0 z1 z2 z3
  replace Hr := Lib.hid (ba (bt Hr.out hb5) (.cells #[.int .i8 0, .int .i64 ux, .int .i8 0, .int .i64 uy] 26))
  replace Hn := Lib.hid (ba (bt Hn.out hb5) (.cells #[.int .i8 0, .int .i64 ux, .int .i8 0, .int .i64 uy] 26))
  replace Hp := Lib.hid (ba (bt Hp.out hb5) (.cells #[.int .i8 0, .int .i64 ux, .int .i8 0, .int .i64 uy] 26)); clear hb5
  obtain ⟨q0, q1, q2, q3, z0, z1, z2, z3⟩ := run_cells Hr.out
  go_wp2_with fail
  refine (HR.out _).mono ?_; rintro _ w6 ⟨rfl, hb6⟩
  clear q0 q1 q2 q3 z0 z1 z2 z3
  replace Hr := Lib.hid (ba (bt Hr.out hb6) (.cells #[.int .i8 0, .int .i64 ux, .int .i8 0, .int .i64 uy] 26))
  replace Hn := Lib.hid (ba (bt Hn.out hb6) (.cells #[.int .i8 0, .int .i64 ux, .int .i8 0, .int .i64 uy] 26))
  replace Hp := Lib.hid (ba (bt Hp.out hb6) (.cells #[.int .i8 0, .int .i64 ux, .int .i8 0, .int .i64 uy] 26))
  have Hu := Lib.hid (ba hb6 (.cells #[.int .i8 0, .int .i64 ux, .int .i8 0, .int .i64 uy] 26)); clear hb6
  obtain ⟨q0, q1, q2, q3, z0, z1, z2, z3⟩ := run_cells Hr.out
  go_wp2_with fail
  refine (HS2.out _ (HS.out.below (bt HW0.out Hr.out))).mono ?_; rintro _ w7 ⟨rfl, hb7⟩
  clear q0 q1 q2 q3 z0 z1 z2 z3
  replace Hr := Lib.hid (bt Hr.out hb7)
  replace Hn := Lib.hid (bt Hn.out hb7)
  replace Hp := Lib.hid (bt Hp.out hb7)
  replace Hu := Lib.hid (bt Hu.out hb7)
  have Hx := Lib.hid hb7; clear hb7
  obtain ⟨q0, q1, q2, q3, z0, z1, z2, z3⟩ := run_cells Hr.out
  obtain ⟨f0, f1, f2, f3, g0, g1, g2, g3⟩ := run_cells Hu.out
  obtain ⟨k0, k1, k2, k3, l0, l1, l2, l3⟩ := run_cells Hx.out
  go_wp2_with fail
  refine (HX.out _).mono ?_; rintro _ w8 ⟨rfl, hb8⟩
  clear q0 q1 q2 q3 z0 z1 z2 z3 f0 f1 f2 f3 g0 g1 g2 g3 k0 k1 k2 k3 l0 l1 l2 l3
  replace Hr := Lib.hid (bt Hr.out hb8); clear hb8
  go_wp2_with fail
  refine (HL.out _ (bt HW0.out Hr.out)).mono ?_; rintro _ w9 ⟨rfl, hb9⟩
  go_wp2_with fail
  go_ret
  exact ⟨rfl, bt (bt HW0.out Hr.out) hb9⟩

set_option maxHeartbeats 4000000 in
set_option maxRecDepth 8000 in
theorem lawArg_no (p lo hi i ux uy ue a b : Int) (w : World) (hs : CalOk w) (HL : LivesOk w)
    (HW : ∀ W, Calls Tryz.prog 18 #[rv a lo b hi, .int .i64 p] W fun r w' => r = .returned (.int .i64 0) ∧ Below W.heap.size W w')
    (HN : ∀ W, CalOk W → Calls Tryz.prog 15 #[rv a lo b hi, .int .u8 p] W fun r w' => r = .returned (.tuple #[rv 0 0 0 0, .int .i64 1]) ∧ Below W.heap.size W w')
    (HP : ∀ W, CalOk W → Calls Tryz.prog 16 #[rv a lo b hi, .int .u8 p] W fun r w' => r = .returned (.tuple #[rv 0 0 0 0, .int .i64 1]) ∧ Below W.heap.size W w')
    (HI : ∀ W, CalOk W → Calls Tryz.prog 11 #[rv a lo b hi, .int .u8 p] W fun r w' => r = .returned (.tuple #[.int .i64 0, .int .i64 1]) ∧ Below W.heap.size W w')
    (HA : ∀ W, CalOk W → Calls Tryz.prog 12 #[.int .i64 i, .int .u8 p] W fun r w' => r = .returned (.tuple #[rv 0 ux 0 uy, .int .i64 ue]) ∧ Below W.heap.size W w')
    (HR : ∀ W, Calls Tryz.prog 19 #[.int .i64 i, .int .i64 p] W fun r w' => r = .returned (.tuple #[rv 0 ux 0 uy, .int .i64 ue]) ∧ Below W.heap.size W w')
    (HS2 : ∀ W, CalOk W → Calls Tryz.prog 14 #[rv a lo b hi, .int .u8 p] W fun r w' => r = .returned (.bool false) ∧ Below W.heap.size W w')
    (h1 : 1 ≤ p) (h3 : p ≤ 3)
    (p0 : 0 ≤ p) (p1 : p < 256) :
    Calls Tryz.prog 4 #[rv a lo b hi, .int .u8 p, .int .i64 i] w fun r w' => r = .returned (.bool true) ∧ Below w.heap.size w w' := by
  have HS := Lib.hid hs; clear hs
  replace HL := Lib.hid HL
  unfold rv at HW HN HP HI HA HR HS2
  unfold rv
  replace HW := Lib.hid HW
  replace HN := Lib.hid HN
  replace HP := Lib.hid HP
  replace HI := Lib.hid HI
  replace HA := Lib.hid HA
  replace HR := Lib.hid HR
  replace HS2 := Lib.hid HS2
  go_enter Tryz.func4, Tryz.ntmps4
  go_wp2_with fail
  have HW0 := Lib.hid (ba (Below.refl w.heap.size w) (.cells #[.int .i8 a, .int .i64 lo, .int .i8 b, .int .i64 hi] 26))
  refine (HW.out _).mono ?_; rintro _ w1 ⟨rfl, hb1⟩
  have Hr := Lib.hid hb1; clear hb1
  obtain ⟨q0, q1, q2, q3, z0, z1, z2, z3⟩ := run_cells Hr.out
  go_wp2_with fail
  refine (HN.out _ (HS.out.below (bt HW0.out Hr.out))).mono ?_; rintro _ w2 ⟨rfl, hb2⟩
  clear q0 q1 q2 q3 z0 z1 z2 z3
  replace Hr := Lib.hid (ba (bt Hr.out hb2) (.cells #[.int .i8 0, .int .i64 0, .int .i8 0, .int .i64 0] 26)); clear hb2
  obtain ⟨q0, q1, q2, q3, z0, z1, z2, z3⟩ := run_cells Hr.out
  go_wp2_with fail
  refine (HP.out _ (HS.out.below (bt HW0.out Hr.out))).mono ?_; rintro _ w3 ⟨rfl, hb3⟩
  clear q0 q1 q2 q3 z0 z1 z2 z3
  replace Hr := Lib.hid (ba (bt Hr.out hb3) (.cells #[.int .i8 0, .int .i64 0, .int .i8 0, .int .i64 0] 26))
  have Hn := Lib.hid (ba hb3 (.cells #[.int .i8 0, .int .i64 0, .int .i8 0, .int .i64 0] 26)); clear hb3
  obtain ⟨q0, q1, q2, q3, z0, z1, z2, z3⟩ := run_cells Hr.out
  go_wp2_with fail
  refine (HI.out _ (HS.out.below (bt HW0.out Hr.out))).mono ?_; rintro _ w4 ⟨rfl, hb4⟩
  clear q0 q1 q2 q3 z0 z1 z2 z3
  replace Hr := Lib.hid (bt Hr.out hb4)
  replace Hn := Lib.hid (bt Hn.out hb4)
  have Hp := Lib.hid hb4; clear hb4
  obtain ⟨q0, q1, q2, q3, z0, z1, z2, z3⟩ := run_cells Hr.out
  go_wp2_with fail
  refine (HA.out _ (HS.out.below (bt HW0.out Hr.out))).mono ?_; rintro _ w5 ⟨rfl, hb5⟩
  clear q0 q1 q2 q3 z0 z1 z2 z3
  replace Hr := Lib.hid (ba (bt Hr.out hb5) (.cells #[.int .i8 0, .int .i64 ux, .int .i8 0, .int .i64 uy] 26))
  replace Hn := Lib.hid (ba (bt Hn.out hb5) (.cells #[.int .i8 0, .int .i64 ux, .int .i8 0, .int .i64 uy] 26))
  replace Hp := Lib.hid (ba (bt Hp.out hb5) (.cells #[.int .i8 0, .int .i64 ux, .int .i8 0, .int .i64 uy] 26)); clear hb5
  obtain ⟨q0, q1, q2, q3, z0, z1, z2, z3⟩ := run_cells Hr.out
  go_wp2_with fail
  refine (HR.out _).mono ?_; rintro _ w6 ⟨rfl, hb6⟩
  clear q0 q1 q2 q3 z0 z1 z2 z3
  replace Hr := Lib.hid (ba (bt Hr.out hb6) (.cells #[.int .i8 0, .int .i64 ux, .int .i8 0, .int .i64 uy] 26))
  replace Hn := Lib.hid (ba (bt Hn.out hb6) (.cells #[.int .i8 0, .int .i64 ux, .int .i8 0, .int .i64 uy] 26))
  replace Hp := Lib.hid (ba (bt Hp.out hb6) (.cells #[.int .i8 0, .int .i64 ux, .int .i8 0, .int .i64 uy] 26))
  have Hu := Lib.hid (ba hb6 (.cells #[.int .i8 0, .int .i64 ux, .int .i8 0, .int .i64 uy] 26)); clear hb6
  obtain ⟨q0, q1, q2, q3, z0, z1, z2, z3⟩ := run_cells Hr.out
  go_wp2_with fail
  refine (HS2.out _ (HS.out.below (bt HW0.out Hr.out))).mono ?_; rintro _ w7 ⟨rfl, hb7⟩
  clear q0 q1 q2 q3 z0 z1 z2 z3
  replace Hr := Lib.hid (bt Hr.out hb7)
  replace Hn := Lib.hid (bt Hn.out hb7)
  replace Hp := Lib.hid (bt Hp.out hb7)
  replace Hu := Lib.hid (bt Hu.out hb7)
  have Hx := Lib.hid hb7; clear hb7
  obtain ⟨q0, q1, q2, q3, z0, z1, z2, z3⟩ := run_cells Hr.out
  obtain ⟨f0, f1, f2, f3, g0, g1, g2, g3⟩ := run_cells Hu.out
  obtain ⟨k0, k1, k2, k3, l0, l1, l2, l3⟩ := run_cells Hx.out
  obtain ⟨a0, a1, a2, a3, c0, c1, c2, c3⟩ := run_cells Hn.out
  obtain ⟨d0, d1, d2, d3, e0, e1, e2, e3⟩ := run_cells Hp.out
  go_wp2_with fail
  refine (HL.out _ (bt HW0.out Hr.out)).mono ?_; rintro _ w9 ⟨rfl, hb9⟩
  go_wp2_with fail
  go_ret
  exact ⟨rfl, bt (bt HW0.out Hr.out) hb9⟩

set_option maxHeartbeats 4000000 in
set_option maxRecDepth 8000 in
theorem lawArg_low (p lo hi i ux uy ue a b : Int) (w : World) (hs : CalOk w) (HL : LivesOk w)
    (HW : ∀ W, Calls Tryz.prog 18 #[rv a lo b hi, .int .i64 p] W fun r w' => r = .returned (.int .i64 0) ∧ Below W.heap.size W w')
    (HN : ∀ W, CalOk W → Calls Tryz.prog 15 #[rv a lo b hi, .int .u8 p] W fun r w' => r = .returned (.tuple #[rv 0 0 0 0, .int .i64 18]) ∧ Below W.heap.size W w')
    (HP : ∀ W, CalOk W → Calls Tryz.prog 16 #[rv a lo b hi, .int .u8 p] W fun r w' => r = .returned (.tuple #[rv 0 0 0 0, .int .i64 18]) ∧ Below W.heap.size W w')
    (HI : ∀ W, CalOk W → Calls Tryz.prog 11 #[rv a lo b hi, .int .u8 p] W fun r w' => r = .returned (.tuple #[.int .i64 0, .int .i64 18]) ∧ Below W.heap.size W w')
    (HA : ∀ W, CalOk W → Calls Tryz.prog 12 #[.int .i64 i, .int .u8 p] W fun r w' => r = .returned (.tuple #[rv 0 ux 0 uy, .int .i64 ue]) ∧ Below W.heap.size W w')
    (HR : ∀ W, Calls Tryz.prog 19 #[.int .i64 i, .int .i64 p] W fun r w' => r = .returned (.tuple #[rv 0 ux 0 uy, .int .i64 ue]) ∧ Below W.heap.size W w')
    (HS2 : ∀ W, CalOk W → Calls Tryz.prog 14 #[rv a lo b hi, .int .u8 p] W fun r w' => r = .returned (.bool false) ∧ Below W.heap.size W w')
    (h1 : p < 1)
    (p0 : 0 ≤ p) (p1 : p < 256) :
    Calls Tryz.prog 4 #[rv a lo b hi, .int .u8 p, .int .i64 i] w fun r w' => r = .returned (.bool true) ∧ Below w.heap.size w w' := by
  have HS := Lib.hid hs; clear hs
  replace HL := Lib.hid HL
  unfold rv at HW HN HP HI HA HR HS2
  unfold rv
  replace HW := Lib.hid HW
  replace HN := Lib.hid HN
  replace HP := Lib.hid HP
  replace HI := Lib.hid HI
  replace HA := Lib.hid HA
  replace HR := Lib.hid HR
  replace HS2 := Lib.hid HS2
  go_enter Tryz.func4, Tryz.ntmps4
  go_wp2_with fail
  have HW0 := Lib.hid (ba (Below.refl w.heap.size w) (.cells #[.int .i8 a, .int .i64 lo, .int .i8 b, .int .i64 hi] 26))
  refine (HW.out _).mono ?_; rintro _ w1 ⟨rfl, hb1⟩
  have Hr := Lib.hid hb1; clear hb1
  obtain ⟨q0, q1, q2, q3, z0, z1, z2, z3⟩ := run_cells Hr.out
  go_wp2_with fail
  refine (HN.out _ (HS.out.below (bt HW0.out Hr.out))).mono ?_; rintro _ w2 ⟨rfl, hb2⟩
  clear q0 q1 q2 q3 z0 z1 z2 z3
  replace Hr := Lib.hid (ba (bt Hr.out hb2) (.cells #[.int .i8 0, .int .i64 0, .int .i8 0, .int .i64 0] 26)); clear hb2
  obtain ⟨q0, q1, q2, q3, z0, z1, z2, z3⟩ := run_cells Hr.out
  go_wp2_with fail
  refine (HP.out _ (HS.out.below (bt HW0.out Hr.out))).mono ?_; rintro _ w3 ⟨rfl, hb3⟩
  clear q0 q1 q2 q3 z0 z1 z2 z3
  replace Hr := Lib.hid (ba (bt Hr.out hb3) (.cells #[.int .i8 0, .int .i64 0, .int .i8 0, .int .i64 0] 26))
  have Hn := Lib.hid (ba hb3 (.cells #[.int .i8 0, .int .i64 0, .int .i8 0, .int .i64 0] 26)); clear hb3
  obtain ⟨q0, q1, q2, q3, z0, z1, z2, z3⟩ := run_cells Hr.out
  go_wp2_with fail
  refine (HI.out _ (HS.out.below (bt HW0.out Hr.out))).mono ?_; rintro _ w4 ⟨rfl, hb4⟩
  clear q0 q1 q2 q3 z0 z1 z2 z3
  replace Hr := Lib.hid (bt Hr.out hb4)
  replace Hn := Lib.hid (bt Hn.out hb4)
  have Hp := Lib.hid hb4; clear hb4
  obtain ⟨q0, q1, q2, q3, z0, z1, z2, z3⟩ := run_cells Hr.out
  go_wp2_with fail
  refine (HA.out _ (HS.out.below (bt HW0.out Hr.out))).mono ?_; rintro _ w5 ⟨rfl, hb5⟩
  clear q0 q1 q2 q3 z0 z1 z2 z3
  replace Hr := Lib.hid (ba (bt Hr.out hb5) (.cells #[.int .i8 0, .int .i64 ux, .int .i8 0, .int .i64 uy] 26))
  replace Hn := Lib.hid (ba (bt Hn.out hb5) (.cells #[.int .i8 0, .int .i64 ux, .int .i8 0, .int .i64 uy] 26))
  replace Hp := Lib.hid (ba (bt Hp.out hb5) (.cells #[.int .i8 0, .int .i64 ux, .int .i8 0, .int .i64 uy] 26)); clear hb5
  obtain ⟨q0, q1, q2, q3, z0, z1, z2, z3⟩ := run_cells Hr.out
  go_wp2_with fail
  refine (HR.out _).mono ?_; rintro _ w6 ⟨rfl, hb6⟩
  clear q0 q1 q2 q3 z0 z1 z2 z3
  replace Hr := Lib.hid (ba (bt Hr.out hb6) (.cells #[.int .i8 0, .int .i64 ux, .int .i8 0, .int .i64 uy] 26))
  replace Hn := Lib.hid (ba (bt Hn.out hb6) (.cells #[.int .i8 0, .int .i64 ux, .int .i8 0, .int .i64 uy] 26))
  replace Hp := Lib.hid (ba (bt Hp.out hb6) (.cells #[.int .i8 0, .int .i64 ux, .int .i8 0, .int .i64 uy] 26))
  have Hu := Lib.hid (ba hb6 (.cells #[.int .i8 0, .int .i64 ux, .int .i8 0, .int .i64 uy] 26)); clear hb6
  obtain ⟨q0, q1, q2, q3, z0, z1, z2, z3⟩ := run_cells Hr.out
  go_wp2_with fail
  refine (HS2.out _ (HS.out.below (bt HW0.out Hr.out))).mono ?_; rintro _ w7 ⟨rfl, hb7⟩
  clear q0 q1 q2 q3 z0 z1 z2 z3
  replace Hr := Lib.hid (bt Hr.out hb7)
  replace Hn := Lib.hid (bt Hn.out hb7)
  replace Hp := Lib.hid (bt Hp.out hb7)
  replace Hu := Lib.hid (bt Hu.out hb7)
  have Hx := Lib.hid hb7; clear hb7
  obtain ⟨q0, q1, q2, q3, z0, z1, z2, z3⟩ := run_cells Hr.out
  obtain ⟨f0, f1, f2, f3, g0, g1, g2, g3⟩ := run_cells Hu.out
  obtain ⟨k0, k1, k2, k3, l0, l1, l2, l3⟩ := run_cells Hx.out
  obtain ⟨a0, a1, a2, a3, c0, c1, c2, c3⟩ := run_cells Hn.out
  obtain ⟨d0, d1, d2, d3, e0, e1, e2, e3⟩ := run_cells Hp.out
  go_wp2_with fail
  refine (HL.out _ (bt HW0.out Hr.out)).mono ?_; rintro _ w9 ⟨rfl, hb9⟩
  go_wp2_with fail
  go_ret
  exact ⟨rfl, bt (bt HW0.out Hr.out) hb9⟩

set_option maxHeartbeats 4000000 in
set_option maxRecDepth 8000 in
theorem lawArg_high (p lo hi i ux uy ue a b : Int) (w : World) (hs : CalOk w) (HL : LivesOk w)
    (HW : ∀ W, Calls Tryz.prog 18 #[rv a lo b hi, .int .i64 p] W fun r w' => r = .returned (.int .i64 0) ∧ Below W.heap.size W w')
    (HN : ∀ W, CalOk W → Calls Tryz.prog 15 #[rv a lo b hi, .int .u8 p] W fun r w' => r = .returned (.tuple #[rv 0 0 0 0, .int .i64 18]) ∧ Below W.heap.size W w')
    (HP : ∀ W, CalOk W → Calls Tryz.prog 16 #[rv a lo b hi, .int .u8 p] W fun r w' => r = .returned (.tuple #[rv 0 0 0 0, .int .i64 18]) ∧ Below W.heap.size W w')
    (HI : ∀ W, CalOk W → Calls Tryz.prog 11 #[rv a lo b hi, .int .u8 p] W fun r w' => r = .returned (.tuple #[.int .i64 0, .int .i64 18]) ∧ Below W.heap.size W w')
    (HA : ∀ W, CalOk W → Calls Tryz.prog 12 #[.int .i64 i, .int .u8 p] W fun r w' => r = .returned (.tuple #[rv 0 ux 0 uy, .int .i64 ue]) ∧ Below W.heap.size W w')
    (HR : ∀ W, Calls Tryz.prog 19 #[.int .i64 i, .int .i64 p] W fun r w' => r = .returned (.tuple #[rv 0 ux 0 uy, .int .i64 ue]) ∧ Below W.heap.size W w')
    (HS2 : ∀ W, CalOk W → Calls Tryz.prog 14 #[rv a lo b hi, .int .u8 p] W fun r w' => r = .returned (.bool false) ∧ Below W.heap.size W w')
    (h1 : 3 < p)
    (p0 : 0 ≤ p) (p1 : p < 256) :
    Calls Tryz.prog 4 #[rv a lo b hi, .int .u8 p, .int .i64 i] w fun r w' => r = .returned (.bool true) ∧ Below w.heap.size w w' := by
  have HS := Lib.hid hs; clear hs
  replace HL := Lib.hid HL
  unfold rv at HW HN HP HI HA HR HS2
  unfold rv
  replace HW := Lib.hid HW
  replace HN := Lib.hid HN
  replace HP := Lib.hid HP
  replace HI := Lib.hid HI
  replace HA := Lib.hid HA
  replace HR := Lib.hid HR
  replace HS2 := Lib.hid HS2
  go_enter Tryz.func4, Tryz.ntmps4
  go_wp2_with fail
  have HW0 := Lib.hid (ba (Below.refl w.heap.size w) (.cells #[.int .i8 a, .int .i64 lo, .int .i8 b, .int .i64 hi] 26))
  refine (HW.out _).mono ?_; rintro _ w1 ⟨rfl, hb1⟩
  have Hr := Lib.hid hb1; clear hb1
  obtain ⟨q0, q1, q2, q3, z0, z1, z2, z3⟩ := run_cells Hr.out
  go_wp2_with fail
  refine (HN.out _ (HS.out.below (bt HW0.out Hr.out))).mono ?_; rintro _ w2 ⟨rfl, hb2⟩
  clear q0 q1 q2 q3 z0 z1 z2 z3
  replace Hr := Lib.hid (ba (bt Hr.out hb2) (.cells #[.int .i8 0, .int .i64 0, .int .i8 0, .int .i64 0] 26)); clear hb2
  obtain ⟨q0, q1, q2, q3, z0, z1, z2, z3⟩ := run_cells Hr.out
  go_wp2_with fail
  refine (HP.out _ (HS.out.below (bt HW0.out Hr.out))).mono ?_; rintro _ w3 ⟨rfl, hb3⟩
  clear q0 q1 q2 q3 z0 z1 z2 z3
  replace Hr := Lib.hid (ba (bt Hr.out hb3) (.cells #[.int .i8 0, .int .i64 0, .int .i8 0, .int .i64 0] 26))
  have Hn := Lib.hid (ba hb3 (.cells #[.int .i8 0, .int .i64 0, .int .i8 0, .int .i64 0] 26)); clear hb3
  obtain ⟨q0, q1, q2, q3, z0, z1, z2, z3⟩ := run_cells Hr.out
  go_wp2_with fail
  refine (HI.out _ (HS.out.below (bt HW0.out Hr.out))).mono ?_; rintro _ w4 ⟨rfl, hb4⟩
  clear q0 q1 q2 q3 z0 z1 z2 z3
  replace Hr := Lib.hid (bt Hr.out hb4)
  replace Hn := Lib.hid (bt Hn.out hb4)
  have Hp := Lib.hid hb4; clear hb4
  obtain ⟨q0, q1, q2, q3, z0, z1, z2, z3⟩ := run_cells Hr.out
  go_wp2_with fail
  refine (HA.out _ (HS.out.below (bt HW0.out Hr.out))).mono ?_; rintro _ w5 ⟨rfl, hb5⟩
  clear q0 q1 q2 q3 z0 z1 z2 z3
  replace Hr := Lib.hid (ba (bt Hr.out hb5) (.cells #[.int .i8 0, .int .i64 ux, .int .i8 0, .int .i64 uy] 26))
  replace Hn := Lib.hid (ba (bt Hn.out hb5) (.cells #[.int .i8 0, .int .i64 ux, .int .i8 0, .int .i64 uy] 26))
  replace Hp := Lib.hid (ba (bt Hp.out hb5) (.cells #[.int .i8 0, .int .i64 ux, .int .i8 0, .int .i64 uy] 26)); clear hb5
  obtain ⟨q0, q1, q2, q3, z0, z1, z2, z3⟩ := run_cells Hr.out
  go_wp2_with fail
  refine (HR.out _).mono ?_; rintro _ w6 ⟨rfl, hb6⟩
  clear q0 q1 q2 q3 z0 z1 z2 z3
  replace Hr := Lib.hid (ba (bt Hr.out hb6) (.cells #[.int .i8 0, .int .i64 ux, .int .i8 0, .int .i64 uy] 26))
  replace Hn := Lib.hid (ba (bt Hn.out hb6) (.cells #[.int .i8 0, .int .i64 ux, .int .i8 0, .int .i64 uy] 26))
  replace Hp := Lib.hid (ba (bt Hp.out hb6) (.cells #[.int .i8 0, .int .i64 ux, .int .i8 0, .int .i64 uy] 26))
  have Hu := Lib.hid (ba hb6 (.cells #[.int .i8 0, .int .i64 ux, .int .i8 0, .int .i64 uy] 26)); clear hb6
  obtain ⟨q0, q1, q2, q3, z0, z1, z2, z3⟩ := run_cells Hr.out
  go_wp2_with fail
  refine (HS2.out _ (HS.out.below (bt HW0.out Hr.out))).mono ?_; rintro _ w7 ⟨rfl, hb7⟩
  clear q0 q1 q2 q3 z0 z1 z2 z3
  replace Hr := Lib.hid (bt Hr.out hb7)
  replace Hn := Lib.hid (bt Hn.out hb7)
  replace Hp := Lib.hid (bt Hp.out hb7)
  replace Hu := Lib.hid (bt Hu.out hb7)
  have Hx := Lib.hid hb7; clear hb7
  obtain ⟨q0, q1, q2, q3, z0, z1, z2, z3⟩ := run_cells Hr.out
  obtain ⟨f0, f1, f2, f3, g0, g1, g2, g3⟩ := run_cells Hu.out
  obtain ⟨k0, k1, k2, k3, l0, l1, l2, l3⟩ := run_cells Hx.out
  obtain ⟨a0, a1, a2, a3, c0, c1, c2, c3⟩ := run_cells Hn.out
  obtain ⟨d0, d1, d2, d3, e0, e1, e2, e3⟩ := run_cells Hp.out
  go_wp2_with fail
  refine (HL.out _ (bt HW0.out Hr.out)).mono ?_; rintro _ w9 ⟨rfl, hb9⟩
  go_wp2_with fail
  go_ret
  exact ⟨rfl, bt (bt HW0.out Hr.out) hb9⟩
end Un
end Go.Proofs.YtipjmaimjchckaaGreatDoor

