/- THE WALKS of layer 23's reference: Leap, Len, Floor, Start, Day, In, Year, Month, Run, Unit. -/
import Derived.Test.YtipjmaimjchckaaGreatDoorNH
/-! THE WALKS of layer 23's reference: Leap, Len, Floor, Start, Day, In, Year, Month, Run, Unit. -/
set_option linter.unusedSimpArgs false
set_option linter.unusedVariables false
namespace Go.Proofs.YtipjmaimjchckaaGreatDoor
open Go.RowKit
namespace Un
open Cal

theorem tmod_test (y k : Int) : (y.tmod k == 0) = decide (y % k = 0) := by
  rw [Bool.eq_iff_iff]; simp only [beq_iff_eq, decide_eq_true_eq]
  exact ⟨fun h => Int.emod_eq_zero_of_dvd (Int.dvd_of_tmod_eq_zero h), fun h => Int.tmod_eq_zero_of_dvd (Int.dvd_of_emod_eq_zero h)⟩
theorem tmod_test2 (y k : Int) : (y.tmod k != 0) = !decide (y % k = 0) := by
  rw [← tmod_test]; rfl

theorem refLeap_any (y : Int) (w : World) : Calls Tryz.prog 46 #[.int .i64 y] w fun e w' => e = .returned (.int .i64 (lp y)) ∧ w = w' := by
  have t4 := tmod_test y 4; have t1 := tmod_test2 y 100; have t5 := tmod_test y 400
  by_cases a : y % 4 = 0 <;> by_cases b : y % 100 = 0 <;> by_cases c : y % 400 = 0 <;>
    simp only [a, b, c, decide_true, decide_false, Bool.not_true, Bool.not_false] at t4 t1 t5 <;>
    (have L : Hid (lp y = if (decide (y % 4 = 0) && (decide (y % 100 ≠ 0) || decide (y % 400 = 0))) then 1 else 0) := Lib.hid rfl
     simp only [a, b, c, ne_eq, not_true_eq_false, not_false_eq_true, decide_true, decide_false, Bool.true_and, Bool.false_and, Bool.or_true, Bool.or_false, Bool.true_or, if_true, if_false, Bool.false_eq_true] at L
     clear a b c
     go_enter Tryz.func46, Tryz.ntmps46
     go_wp2
     go_ret
     exact ⟨ri (by first | exact L.out.symm | rfl), rfl⟩)

theorem refLen_any (y m : Int) (w : World) (m0 : 1 ≤ m) (m1 : m ≤ 12) : Calls Tryz.prog 48 #[.int .i64 y, .int .i64 m] w fun e w' => e = .returned (.int .i64 (len y m)) ∧ w = w' := by
  have L := lp_01 y
  have : m = 1 ∨ m = 2 ∨ m = 3 ∨ m = 4 ∨ m = 5 ∨ m = 6 ∨ m = 7 ∨ m = 8 ∨ m = 9 ∨ m = 10 ∨ m = 11 ∨ m = 12 := by omega
  rcases this with rfl | rfl | rfl | rfl | rfl | rfl | rfl | rfl | rfl | rfl | rfl | rfl <;>
    (clear m0 m1
     go_enter Tryz.func48, Tryz.ntmps48
     go_wp2_with (go_at_call 46; refine (refLeap_any _ _).mono ?_; rintro e w' ⟨rfl, rfl⟩)
     go_ret
     exact ⟨ri (by unfold len; simp), rfl⟩)

theorem refFloor_any (a b : Int) (w : World) (hb : 1 < b) (hb2 : b < 9223372036854775808) (h0 : -9223372036854775808 ≤ a) (h1 : a < 9223372036854775808) :
    Calls Tryz.prog 45 #[.int .i64 a, .int .i64 b] w fun e w' => e = .returned (.int .i64 (a / b)) ∧ w = w' := by
  obtain ⟨c1, c2, c3⟩ := @div_cases a b (by omega)
  have b0 : (b == 0) = false := by rw [beq_eq_false_iff_ne]; omega
  have b1 : (b == -1) = false := by rw [beq_eq_false_iff_ne]; omega
  have bd := ediv_bd (a := a) hb h0 h1
  by_cases hz : a.tmod b < 0
  · have ha : a < 0 := (c3 (by omega)).1 hz
    obtain ⟨e1, e2⟩ := c1 ⟨by omega, ha⟩
    have m2 : decide (a.tmod b < 0) = true := decide_eq_true hz
    have w1 : wrap64 (a.tdiv b - 1) = a / b := by rw [e1]; exact wrap_in bd.1 bd.2
    clear hz e1 e2 c1 c2 c3 bd
    go_enter Tryz.func45, Tryz.ntmps45
    go_wp2
    go_ret
    exact ⟨ri w1, rfl⟩
  · have m2 : decide (a.tmod b < 0) = false := decide_eq_false hz
    have k : a.tmod b = 0 ∨ 0 ≤ a := by
      by_cases h : a.tmod b = 0
      · exact .inl h
      · have := c3 h; exact .inr (by omega)
    obtain ⟨e1, e2⟩ := c2 k
    have E1 := Lib.hid e1
    have w1 : wrap64 (a.tdiv b) = a / b := by rw [e1]; exact wrap_in bd.1 bd.2
    clear hz e1 e2 c1 c2 c3 bd k
    go_enter Tryz.func45, Tryz.ntmps45
    go_wp2
    go_ret
    exact ⟨ri (by first | exact w1 | exact E1.out | rfl), rfl⟩

theorem refStart_any (y : Int) (w : World) (h0 : -25000000000000000 ≤ y) (h1 : y ≤ 25000000000000000) :
    Calls Tryz.prog 20 #[.int .i64 y] w fun e w' => e = .returned (.int .i64 (st y)) ∧ w = w' := by
  have E := Lib.hid (rst_eq y)
  obtain ⟨r, hr⟩ : ∃ r, r = y - y / 400 * 400 := ⟨_, rfl⟩
  obtain ⟨c, hc⟩ : ∃ c, c = y / 400 := ⟨_, rfl⟩
  have r0 : 0 ≤ r := by omega
  have r1 : r < 400 := by omega
  go_enter Tryz.func20, Tryz.ntmps20
  go_wp2_with (go_at_call 45; refine (refFloor_any _ _ _ (by omega) (by omega) (by omega) (by omega)).mono ?_; rintro e w' ⟨rfl, rfl⟩)
  go_ret
  exact ⟨ri (by rw [← E.out]; unfold rst; omega), rfl⟩

theorem refDay_any (y m d : Int) (w : World) (h0 : -20000000000000000 ≤ y) (h1 : y ≤ 20000000000000000) (m0 : 1 ≤ m) (m1 : m ≤ 13) (d0 : -1000 ≤ d) (d1 : d ≤ 1000) :
    Calls Tryz.prog 47 #[.int .i64 y, .int .i64 m, .int .i64 d] w fun e w' => e = .returned (.int .i64 (st y + cum y m + d - 1)) ∧ w = w' := by
  obtain ⟨n, rfl⟩ : ∃ n : Nat, m = (n : Int) + 1 := ⟨(m - 1).toNat, by omega⟩
  obtain ⟨b0, b1⟩ := st_bd2 (y := y) (by omega) (by omega)
  go_enter Tryz.func47, Tryz.ntmps47
  go_wp2_with (go_at_call 20; refine (refStart_any _ _ (by omega) (by omega)).mono ?_; rintro e w' ⟨rfl, rfl⟩)
  go_loop [7, 8] (fun s j => ∃ k : Nat, k ≤ n ∧ s = .int .i64 (st y + cum y ((k : Int) + 1)) ∧ j = .int .i64 ((k : Int) + 1)) (fun _ j => n + 1 - (intOf j).toNat)
  case atStart => exact ⟨0, by omega, by rw [show ((0 : Nat) : Int) + 1 = 1 from rfl, cum_one, Int.add_zero], rfl⟩
  case round =>
    obtain ⟨k, hk, rfl, rfl⟩ := hrel
    have cb := @cum_bd y ((k : Int) + 1) (by omega) (by omega)
    by_cases hlt : k < n
    · have hl := len_bd y ((k : Int) + 1)
      have hcs := cum_succ y ((k : Int) + 1) (by omega) (by omega)
      have HCS := Lib.hid hcs; clear hcs
      go_wp2_with (go_at_call 48; refine (refLen_any _ _ _ (by omega) (by omega)).mono ?_; rintro e w' ⟨rfl, rfl⟩)
      go_round
      case rel => exact ⟨k + 1, by omega, vi (by rw [show ((k + 1 : Nat) : Int) + 1 = (k : Int) + 1 + 1 by omega, HCS.out]; omega), by go_num⟩
      case measure => simp [intOf]; omega
    · have e : k = n := by omega
      subst e
      go_wp2
      go_ret
      exact ⟨ri (by omega), rfl⟩
end Un
end Go.Proofs.YtipjmaimjchckaaGreatDoor

/-! THE WALKS of layer 23's reference: In, Year, Month, Run, Unit (of years and months). -/
set_option linter.unusedSimpArgs false
set_option linter.unusedVariables false
namespace Go.Proofs.YtipjmaimjchckaaGreatDoor
open Go.RowKit
namespace Un
open Cal

theorem st_lo : st (-10000000000000000) = -3652425000000000000 := by decide
theorem st_hi : st 10000000000000000 = 3652425000000000000 := by decide
theorem st_hi1 : st 10000000000000001 = 3652425000000000366 := by decide
theorem yof_in {d : Int} : (-10000000000000000 ≤ yof d ∧ yof d ≤ 10000000000000000) ↔ (-3652425000000000000 ≤ d ∧ d < 3652425000000000366) := by
  have a := @yof_le d (-10000000000000000)
  have b := @yof_le d 10000000000000001
  rw [st_lo] at a; rw [st_hi1] at b
  omega

def inC (d : Int) : Int := if -3652425000000000000 ≤ d ∧ d < 3652425000000000366 then 1 else 0
theorem refIn_any (d : Int) (w : World) (h0 : -9223372036854775808 ≤ d) (h1 : d < 9223372036854775808) :
    Calls Tryz.prog 40 #[.int .i64 d] w fun e w' => e = .returned (.int .i64 (inC d)) ∧ w = w' := by
  have HL : ∀ W, Calls Tryz.prog 46 #[.int .i64 10000000000000000] W fun e w' => e = .returned (.int .i64 1) ∧ W = w' := fun W => refLeap_any _ W
  have HA : ∀ W, Calls Tryz.prog 20 #[.int .i64 (-10000000000000000)] W fun e w' => e = .returned (.int .i64 (-3652425000000000000)) ∧ W = w' := fun W => by
    have := refStart_any (-10000000000000000) W (by omega) (by omega); rw [st_lo] at this; exact this
  have HB : ∀ W, Calls Tryz.prog 20 #[.int .i64 10000000000000000] W fun e w' => e = .returned (.int .i64 3652425000000000000) ∧ W = w' := fun W => by
    have := refStart_any 10000000000000000 W (by omega) (by omega); rw [st_hi] at this; exact this
  replace HL := Lib.hid HL; replace HA := Lib.hid HA; replace HB := Lib.hid HB
  by_cases c1 : d < -3652425000000000000
  · have t : Hid (inC d = 0) := Lib.hid (by unfold inC; rw [if_neg (by omega)])
    go_enter Tryz.func40, Tryz.ntmps40
    go_wp2_with fail
    refine (HA.out _).mono ?_; rintro e w' ⟨rfl, rfl⟩
    go_wp2_with fail
    go_ret
    exact ⟨ri t.out.symm, rfl⟩
  · by_cases c2 : d > 3652425000000000365
    · have t : Hid (inC d = 0) := Lib.hid (by unfold inC; rw [if_neg (by omega)])
      go_enter Tryz.func40, Tryz.ntmps40
      go_wp2_with fail
      refine (HA.out _).mono ?_; rintro e w' ⟨rfl, rfl⟩
      go_wp2_with fail
      refine (HB.out _).mono ?_; rintro e w' ⟨rfl, rfl⟩
      go_wp2_with fail
      refine (HL.out _).mono ?_; rintro e w' ⟨rfl, rfl⟩
      go_wp2_with fail
      go_ret
      exact ⟨ri t.out.symm, rfl⟩
    · have t : Hid (inC d = 1) := Lib.hid (by unfold inC; rw [if_pos (by omega)])
      go_enter Tryz.func40, Tryz.ntmps40
      go_wp2_with fail
      refine (HA.out _).mono ?_; rintro e w' ⟨rfl, rfl⟩
      go_wp2_with fail
      refine (HB.out _).mono ?_; rintro e w' ⟨rfl, rfl⟩
      go_wp2_with fail
      refine (HL.out _).mono ?_; rintro e w' ⟨rfl, rfl⟩
      go_wp2_with fail
      go_ret
      exact ⟨ri t.out.symm, rfl⟩

theorem year_low (d : Int) : st (d / 146097 * 400 + d % 146097 / 366) ≤ d := by unfold st bef; omega
theorem refYear_any (d : Int) (w : World) (h0 : -3652425000000000000 ≤ d) (h1 : d < 3652425000000000366) :
    Calls Tryz.prog 41 #[.int .i64 d] w fun e w' => e = .returned (.int .i64 (yof d)) ∧ w = w' := by
  obtain ⟨y0, y1⟩ := yof_in.2 ⟨h0, h1⟩
  have yl := year_low d
  have ys := yof_spec d
  have ym : d / 146097 * 400 + d % 146097 / 366 ≤ yof d := by
    have := @yof_le d (d / 146097 * 400 + d % 146097 / 366); omega
  have YS := Lib.hid ys; have YM := Lib.hid ym
  have wr : wrap64 (d - d / 146097 * 146097) = d % 146097 := by rw [wrap_in (by omega) (by omega)]; omega
  clear ys ym yl
  go_enter Tryz.func41, Tryz.ntmps41
  go_wp2_with (go_at_call 45; refine (refFloor_any _ _ _ (by omega) (by omega) (by omega) (by omega)).mono ?_; rintro e w' ⟨rfl, rfl⟩)
  go_loop [4] (fun y => ∃ v : Int, y = .int .i64 v ∧ -10000000000000010 ≤ v ∧ v ≤ yof d) (fun y => (yof d - intOf y).toNat)
  case atStart => exact ⟨_, rfl, by omega, by have := YM.out; omega⟩
  case round =>
    obtain ⟨v, rfl, v0, v1⟩ := hrel
    by_cases hlt : v < yof d
    · have hle : st (v + 1) ≤ d := by have := YS.out.1; have := st_mono (a := v + 1) (b := yof d) (by omega); omega
      have t : decide (st (v + 1) ≤ d) = true := decide_eq_true hle
      go_wp2_with (go_at_call 20; refine (refStart_any _ _ (by omega) (by omega)).mono ?_; rintro e w' ⟨rfl, rfl⟩)
      go_round
      case rel => exact ⟨v + 1, rfl, by omega, by omega⟩
      case measure => simp [intOf]; omega
    · have e : v = yof d := by omega
      subst e
      have t : decide (st (yof d + 1) ≤ d) = false := decide_eq_false (by have := YS.out.2; omega)
      go_wp2_with (go_at_call 20; refine (refStart_any _ _ (by omega) (by omega)).mono ?_; rintro e w' ⟨rfl, rfl⟩)
      go_ret
      exact ⟨rfl, rfl⟩

theorem refMonth_any (d : Int) (w : World) (h0 : -3652425000000000000 ≤ d) (h1 : d < 3652425000000000366) :
    Calls Tryz.prog 42 #[.int .i64 d] w fun e w' => e = .returned (.int .i64 (mof (yof d) (d - st (yof d)))) ∧ w = w' := by
  obtain ⟨y0, y1⟩ := yof_in.2 ⟨h0, h1⟩
  have ys := yof_spec d
  have yn := st_succ (yof d)
  obtain ⟨m0, m1, m2, m3⟩ := @mof_spec (yof d) (d - st (yof d)) (by omega) (by omega)
  have HY := fun W => refYear_any d W h0 h1
  generalize yof d = y at *
  generalize mof y (d - st y) = m at *
  replace HY := Lib.hid HY
  have M2 := Lib.hid m2; have M3 := Lib.hid m3
  clear ys yn m2 m3
  have HD : ∀ v W, 1 ≤ v → v ≤ 12 → Calls Tryz.prog 47 #[.int .i64 y, .int .i64 (v + 1), .int .i64 1] W fun e w' => e = .returned (.int .i64 (st y + cum y (v + 1))) ∧ W = w' := fun v W h0 h1 => by
    have := refDay_any y (v + 1) 1 W (by omega) (by omega) (by omega) (by omega) (by omega) (by omega)
    rw [show st y + cum y (v + 1) + 1 - 1 = st y + cum y (v + 1) by omega] at this; exact this
  replace HD := Lib.hid HD
  go_enter Tryz.func42, Tryz.ntmps42
  go_wp2_with (go_at_call 41; refine (HY.out _).mono ?_; rintro e w' ⟨rfl, rfl⟩)
  go_loop [4] (fun j => ∃ v : Int, j = .int .i64 v ∧ 1 ≤ v ∧ v ≤ m) (fun j => (m - intOf j).toNat)
  case atStart => exact ⟨1, rfl, by omega, by omega⟩
  case round =>
    obtain ⟨v, rfl, v0, v1⟩ := hrel
    by_cases hlt : v < m
    · have hle : st y + cum y (v + 1) ≤ d := by
        have := M2.out
        by_cases h : v + 1 = m
        · rw [h]; omega
        · have := @cum_mono y (v + 1) m (by omega) (by omega) (by omega); have := len_bd y (v + 1); omega
      have t : decide (st y + cum y (v + 1) ≤ d) = true := decide_eq_true (by omega)
      have t2 : decide (v < 12) = true := decide_eq_true (by omega)
      clear hle
      go_wp2_with (go_at_call 47; refine (HD.out _ _ (by omega) (by omega)).mono ?_; rintro e w' ⟨rfl, rfl⟩)
      go_round
      case rel => exact ⟨v + 1, rfl, by omega, by omega⟩
      case measure => simp [intOf]; omega
    · have e : v = m := by omega
      subst e
      by_cases h12 : v < 12
      · have t : decide (st y + cum y (v + 1) ≤ d) = false := decide_eq_false (by have := M3.out; omega)
        have t2 : decide (v < 12) = true := decide_eq_true h12
        go_wp2_with (go_at_call 47; refine (HD.out _ _ (by omega) (by omega)).mono ?_; rintro e w' ⟨rfl, rfl⟩)
        go_ret
        exact ⟨rfl, rfl⟩
      · have e : v = 12 := by omega
        subst e
        go_wp2_with (go_at_call 47; refine (HD.out _ _ (by omega) (by omega)).mono ?_; rintro e w' ⟨rfl, rfl⟩)
        go_ret
        exact ⟨rfl, rfl⟩

theorem refRun_any (lo hi : Int) (w : World) :
    Calls Tryz.prog 39 #[.int .i64 lo, .int .i64 hi] w fun r w' => r = .returned (rv 0 lo 0 hi) ∧ Below w.heap.size w w' := by
  go_enter Tryz.func39, Tryz.ntmps39
  go_wp2
  refine bodyPost_ret (v := rv 0 lo 0 hi) (by simp [results, Tryz.results39, go_sem, rv]) rfl ⟨rfl, ?_⟩
  first | exact ba (Below.refl _ _) _ | exact Below.refl _ _
end Un
end Go.Proofs.YtipjmaimjchckaaGreatDoor

/-! THE WALKS of layer 23's reference: Unit (of years and months), Holding, Is, Index, At, Beside. -/
set_option linter.unusedSimpArgs false
set_option linter.unusedVariables false
namespace Go.Proofs.YtipjmaimjchckaaGreatDoor
open Go.RowKit
namespace Un
open Cal

theorem rv_eq {a b c d : Int} (h : a = b) (h2 : c = d) : rv 0 a 0 c = rv 0 b 0 d := by rw [h, h2]
theorem bset {W w : World} (h : Below W.heap.size W w) (a : Addr) (ha : W.heap.size ≤ a.block) (v : Value) : Below W.heap.size W (w.setCell a v) := h.setCell ha v

theorem refUnit0_any (y : Int) (w : World) (h0 : -10000000000000000 ≤ y) (h1 : y ≤ 10000000000000000) :
    Calls Tryz.prog 21 #[.int .i64 y, .int .i64 0, .int .i64 0] w fun r w' => r = .returned (rv 0 (st y) 0 (st (y + 1) - 1)) ∧ Below w.heap.size w w' := by
  obtain ⟨b0, b1⟩ := st_bd2 (y := y) (by omega) (by omega)
  obtain ⟨l0, l1⟩ := lp_01 y
  have E : Hid (st y + 364 + lp y = st (y + 1) - 1) := Lib.hid (by rw [st_succ]; omega)
  go_enter Tryz.func21, Tryz.ntmps21
  go_wp2_with (first | (go_at_call 20; refine (refStart_any _ _ (by omega) (by omega)).mono ?_; rintro e w' ⟨rfl, rfl⟩) | (go_at_call 46; refine (refLeap_any _ _).mono ?_; rintro e w' ⟨rfl, rfl⟩))
  refine (refRun_any _ _ _).mono ?_; rintro _ w1 ⟨rfl, hb1⟩
  unfold rv
  obtain ⟨q0, q1, q2, q3, z0, z1, z2, z3⟩ := run_cells hb1
  go_wp2_with fail
  refine bodyPost_ret (v := rv 0 (st y) 0 (st y + 364 + lp y)) (by simp [results, Tryz.results21, go_sem, rv, q0, q1, q2, q3]) rfl ⟨by rw [E.out], ?_⟩
  exact ((((bt (ba (Below.refl _ _) _) hb1).setCell (Nat.le_refl _) _).setCell (Nat.le_refl _) _).setCell (Nat.le_refl _) _).setCell (Nat.le_refl _) _

theorem refUnitM_any (y m : Int) (w : World) (h0 : -10000000000000000 ≤ y) (h1 : y ≤ 10000000000000000) (m0 : 1 ≤ m) (m1 : m ≤ 12) :
    Calls Tryz.prog 21 #[.int .i64 y, .int .i64 m, .int .i64 0] w fun r w' => r = .returned (rv 0 (st y + cum y m) 0 (st y + cum y (m + 1) - 1)) ∧ Below w.heap.size w w' := by
  obtain ⟨b0, b1⟩ := st_bd2 (y := y) (by omega) (by omega)
  have lb := len_bd y m
  have cb := @cum_bd y m (by omega) (by omega)
  have E : Hid (st y + cum y m + len y m - 1 = st y + cum y (m + 1) - 1) := Lib.hid (by rw [cum_succ y m m0 m1]; omega)
  have HD : ∀ W, Calls Tryz.prog 47 #[.int .i64 y, .int .i64 m, .int .i64 1] W fun e w' => e = .returned (.int .i64 (st y + cum y m)) ∧ W = w' := fun W => by
    have := refDay_any y m 1 W (by omega) (by omega) (by omega) (by omega) (by omega) (by omega)
    rw [show st y + cum y m + 1 - 1 = st y + cum y m by omega] at this; exact this
  replace HD := Lib.hid HD
  have t : (m == 0) = false := by rw [beq_eq_false_iff_ne]; omega
  go_enter Tryz.func21, Tryz.ntmps21
  go_wp2_with (first | (go_at_call 47; refine (HD.out _).mono ?_; rintro e w' ⟨rfl, rfl⟩) | (go_at_call 48; refine (refLen_any _ _ _ (by omega) (by omega)).mono ?_; rintro e w' ⟨rfl, rfl⟩))
  refine (refRun_any _ _ _).mono ?_; rintro _ w1 ⟨rfl, hb1⟩
  unfold rv
  obtain ⟨q0, q1, q2, q3, z0, z1, z2, z3⟩ := run_cells hb1
  go_wp2_with fail
  refine bodyPost_ret (v := rv 0 (st y + cum y m) 0 (st y + cum y m + len y m - 1)) (by simp [results, Tryz.results21, go_sem, rv, q0, q1, q2, q3]) rfl ⟨by rw [E.out], ?_⟩
  exact ((((bt (ba (Below.refl _ _) _) hb1).setCell (Nat.le_refl _) _).setCell (Nat.le_refl _) _).setCell (Nat.le_refl _) _).setCell (Nat.le_refl _) _

theorem refHolding3_any (d : Int) (w : World) :
    Calls Tryz.prog 9 #[.int .i64 d, .int .i64 3] w fun r w' => r = .returned (.tuple #[rv 0 d 0 d, .int .i64 0]) ∧ Below w.heap.size w w' := by
  go_enter Tryz.func9, Tryz.ntmps9
  go_wp2_with fail
  refine (refRun_any _ _ _).mono ?_; rintro _ w1 ⟨rfl, hb1⟩
  unfold rv
  obtain ⟨q0, q1, q2, q3, z0, z1, z2, z3⟩ := run_cells hb1
  go_wp2_with fail
  refine bodyPost_ret (v := .tuple #[rv 0 d 0 d, .int .i64 0]) (by simp [results, Tryz.results9, go_sem, rv, q0, q1, q2, q3]) rfl ⟨rfl, ?_⟩
  exact ((((bt (ba (Below.refl _ _) _) hb1).setCell (Nat.le_refl _) _).setCell (Nat.le_refl _) _).setCell (Nat.le_refl _) _).setCell (Nat.le_refl _) _

theorem refHoldingNo_any (d p : Int) (w : World) (hp : p < 1 ∨ 3 < p) :
    Calls Tryz.prog 9 #[.int .i64 d, .int .i64 p] w fun r w' => r = .returned (.tuple #[rv 0 0 0 0, .int .i64 18]) ∧ Below w.heap.size w w' := by
  rcases hp with hp | hp
  · go_enter Tryz.func9, Tryz.ntmps9
    go_wp2_with fail
    refine bodyPost_ret (v := .tuple #[rv 0 0 0 0, .int .i64 18]) (by simp [results, Tryz.results9, go_sem, rv]) rfl ⟨rfl, ?_⟩
    exact ba (Below.refl _ _) _
  · go_enter Tryz.func9, Tryz.ntmps9
    go_wp2_with fail
    refine bodyPost_ret (v := .tuple #[rv 0 0 0 0, .int .i64 18]) (by simp [results, Tryz.results9, go_sem, rv]) rfl ⟨rfl, ?_⟩
    exact ba (Below.refl _ _) _

theorem refHoldingOut_any (d p : Int) (w : World) (hp : p = 1 ∨ p = 2) (h0 : -9223372036854775808 ≤ d) (h1 : d < 9223372036854775808) (hd : inC d = 0) :
    Calls Tryz.prog 9 #[.int .i64 d, .int .i64 p] w fun r w' => r = .returned (.tuple #[rv 0 0 0 0, .int .i64 6]) ∧ Below w.heap.size w w' := by
  have HI := fun W => refIn_any d W h0 h1
  rw [hd] at HI
  replace HI := Lib.hid HI
  clear hd
  rcases hp with rfl | rfl
  · go_enter Tryz.func9, Tryz.ntmps9
    go_wp2_with (first | (go_at_call 40; refine (HI.out _).mono ?_; rintro e w' ⟨rfl, rfl⟩))
    refine bodyPost_ret (v := .tuple #[rv 0 0 0 0, .int .i64 6]) (by simp [results, Tryz.results9, go_sem, rv]) rfl ⟨rfl, ?_⟩
    exact ba (Below.refl _ _) _
  · go_enter Tryz.func9, Tryz.ntmps9
    go_wp2_with (first | (go_at_call 40; refine (HI.out _).mono ?_; rintro e w' ⟨rfl, rfl⟩))
    refine bodyPost_ret (v := .tuple #[rv 0 0 0 0, .int .i64 6]) (by simp [results, Tryz.results9, go_sem, rv]) rfl ⟨rfl, ?_⟩
    exact ba (Below.refl _ _) _

theorem refHolding1_any (d : Int) (w : World) (h0 : -3652425000000000000 ≤ d) (h1 : d < 3652425000000000366) :
    Calls Tryz.prog 9 #[.int .i64 d, .int .i64 1] w fun r w' => r = .returned (.tuple #[rv 0 (st (yof d)) 0 (st (yof d + 1) - 1), .int .i64 0]) ∧ Below w.heap.size w w' := by
  have HI := fun W => refIn_any d W (by omega) (by omega)
  rw [show inC d = 1 from by unfold inC; rw [if_pos ⟨h0, h1⟩]] at HI
  have HY := fun W => refYear_any d W h0 h1
  obtain ⟨y0, y1⟩ := yof_in.2 ⟨h0, h1⟩
  generalize yof d = y at *
  have HU := fun W => refUnit0_any y W y0 y1
  generalize st (y + 1) - 1 = hi at *
  generalize st y = lo at *
  unfold rv at HU ⊢
  replace HI := Lib.hid HI; replace HY := Lib.hid HY; replace HU := Lib.hid HU
  go_enter Tryz.func9, Tryz.ntmps9
  go_wp2_with (first | (go_at_call 40; refine (HI.out _).mono ?_; rintro e w' ⟨rfl, rfl⟩) | (go_at_call 41; refine (HY.out _).mono ?_; rintro e w' ⟨rfl, rfl⟩))
  refine (HU.out _).mono ?_; rintro _ w1 ⟨rfl, hb1⟩
  obtain ⟨q0, q1, q2, q3, z0, z1, z2, z3⟩ := run_cells hb1
  go_wp2_with fail
  refine bodyPost_ret (v := .tuple #[rv 0 lo 0 hi, .int .i64 0]) (by simp [results, Tryz.results9, go_sem, rv, q0, q1, q2, q3]) rfl ⟨rfl, ?_⟩
  exact ((((bt (ba (Below.refl _ _) _) hb1).setCell (Nat.le_refl _) _).setCell (Nat.le_refl _) _).setCell (Nat.le_refl _) _).setCell (Nat.le_refl _) _

theorem refHolding2_any (d : Int) (w : World) (h0 : -3652425000000000000 ≤ d) (h1 : d < 3652425000000000366) :
    Calls Tryz.prog 9 #[.int .i64 d, .int .i64 2] w fun r w' => r = .returned (.tuple #[rv 0 (st (yof d) + cum (yof d) (mof (yof d) (d - st (yof d)))) 0 (st (yof d) + cum (yof d) (mof (yof d) (d - st (yof d)) + 1) - 1), .int .i64 0]) ∧ Below w.heap.size w w' := by
  have HI := fun W => refIn_any d W (by omega) (by omega)
  rw [show inC d = 1 from by unfold inC; rw [if_pos ⟨h0, h1⟩]] at HI
  have HY := fun W => refYear_any d W h0 h1
  have HM := fun W => refMonth_any d W h0 h1
  obtain ⟨y0, y1⟩ := yof_in.2 ⟨h0, h1⟩
  have ys := yof_spec d
  have yn := st_succ (yof d)
  obtain ⟨m0, m1, m2, m3⟩ := @mof_spec (yof d) (d - st (yof d)) (by omega) (by omega)
  clear m2 m3 ys yn
  generalize yof d = y at *
  generalize mof y (d - st y) = m at *
  have HU := fun W => refUnitM_any y m W y0 y1 m0 m1
  generalize st y + cum y (m + 1) - 1 = hi at *
  generalize st y + cum y m = lo at *
  unfold rv at HU ⊢
  replace HI := Lib.hid HI; replace HY := Lib.hid HY; replace HU := Lib.hid HU; replace HM := Lib.hid HM
  go_enter Tryz.func9, Tryz.ntmps9
  go_wp2_with (first | (go_at_call 40; refine (HI.out _).mono ?_; rintro e w' ⟨rfl, rfl⟩) | (go_at_call 41; refine (HY.out _).mono ?_; rintro e w' ⟨rfl, rfl⟩) | (go_at_call 42; refine (HM.out _).mono ?_; rintro e w' ⟨rfl, rfl⟩))
  refine (HU.out _).mono ?_; rintro _ w1 ⟨rfl, hb1⟩
  obtain ⟨q0, q1, q2, q3, z0, z1, z2, z3⟩ := run_cells hb1
  go_wp2_with fail
  refine bodyPost_ret (v := .tuple #[rv 0 lo 0 hi, .int .i64 0]) (by simp [results, Tryz.results9, go_sem, rv, q0, q1, q2, q3]) rfl ⟨rfl, ?_⟩
  exact ((((bt (ba (Below.refl _ _) _) hb1).setCell (Nat.le_refl _) _).setCell (Nat.le_refl _) _).setCell (Nat.le_refl _) _).setCell (Nat.le_refl _) _

theorem refHolding_any (d p : Int) (w : World) (h0 : -9223372036854775808 ≤ d) (h1 : d < 9223372036854775808) :
    Calls Tryz.prog 9 #[.int .i64 d, .int .i64 p] w fun r w' => r = .returned (.tuple #[rv 0 (holdAll p d).1 0 (holdAll p d).2.1, .int .i64 (holdAll p d).2.2]) ∧ Below w.heap.size w w' := by
  unfold holdAll
  by_cases hp : p < 1 ∨ 3 < p
  · rw [if_pos hp]; exact refHoldingNo_any d p w hp
  · rw [if_neg hp]
    unfold holdC
    by_cases p3 : p = 3
    · subst p3; rw [if_pos rfl]; exact refHolding3_any d w
    · rw [if_neg p3]
      by_cases hd : -3652425000000000000 ≤ d ∧ d < 3652425000000000366
      · rw [if_pos (yof_in.2 hd)]
        obtain rfl | rfl : p = 1 ∨ p = 2 := by omega
        · rw [if_pos rfl]; exact refHolding1_any d w hd.1 hd.2
        · rw [if_neg (by omega)]; exact refHolding2_any d w hd.1 hd.2
      · rw [if_neg (fun h => hd (yof_in.1 h))]
        exact refHoldingOut_any d p w (by omega) h0 h1 (by unfold inC; rw [if_neg hd])
end Un
end Go.Proofs.YtipjmaimjchckaaGreatDoor

