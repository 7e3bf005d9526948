/- Down and Up: plain facts, and the walks of the program's. -/
import Derived.Test.YtmebmfgmopdieaaGreatDoorFlProg
set_option linter.unusedSimpArgs false
set_option linter.unusedVariables false
set_option maxRecDepth 100000
namespace Go.Proofs.YtmebmfgmopdieaaGreatDoor
open Go.RowKit
namespace Fl

def upr (v : Nat) : Nat := if mg (dn v) = v then dn v else dn v + 1
def downW (n : Int) : Nat := if n < 0 then wd true (upr (n.natAbs * U)) else dn (n.natAbs * U)
def upW (n : Int) : Nat := if n < 0 then wd true (dn (n.natAbs * U)) else upr (n.natAbs * U)

theorem nan_false {r : Nat} (h : r ≤ 9218868437227405312) : nan r = false := by unfold nan; simp; omega
theorem prv_pos {r : Nat} (h0 : 0 < r) (h : r ≤ 9218868437227405312) : prv r = (r - 1, 0) := by
  have hk : ky r = r + 9223372036854775808 := by unfold ky; rw [nan_false h, if_neg (by decide), if_neg (by omega)]
  unfold prv; rw [hk, if_pos (by omega)]
  unfold atN; rw [if_pos (by omega), show r + 9223372036854775808 - 1 - 9223372036854775808 = r - 1 from by omega]
theorem nxt_pos {r : Nat} (h : r < 9218868437227405312) : nxt r = (r + 1, 0) := by
  have hk : ky r = r + 9223372036854775808 := by unfold ky; rw [nan_false (by omega), if_neg (by decide), if_neg (by omega)]
  unfold nxt; rw [hk, if_pos (by omega)]
  unfold atN; rw [if_pos (by omega), show r + 9223372036854775808 + 1 - 9223372036854775808 = r + 1 from by omega]
theorem ky_neg {r : Nat} (h : r ≤ 9218868437227405312) : ky (wd true r) = 9223372036854775807 - r := by
  unfold ky; rw [nan_wd h, if_neg (by decide)]
  unfold wd; rw [if_pos rfl, if_pos (by omega)]; omega
theorem prv_neg {r : Nat} (h : r < 9218868437227405312) : prv (wd true r) = (wd true (r + 1), 0) := by
  unfold prv; rw [ky_neg (by omega), if_pos (by omega)]
  unfold atN wd; rw [if_neg (by omega), if_pos rfl, show 18446744073709551615 - (9223372036854775807 - r - 1) = 9223372036854775808 + (r + 1) from by omega]
theorem nxt_neg {r : Nat} (h0 : 0 < r) (h : r ≤ 9218868437227405312) : nxt (wd true r) = (wd true (r - 1), 0) := by
  unfold nxt; rw [ky_neg (by omega), if_pos (by omega)]
  unfold atN wd; rw [if_neg (by omega), if_pos rfl, show 18446744073709551615 - (9223372036854775807 - r + 1) = 9223372036854775808 + (r - 1) from by omega]

/-- The nearest double of n, and how it stands to n. -/
theorem near_facts {n : Int} (l0 : -9223372036854775808 ≤ n) (l1 : n < 9223372036854775808) :
    floatOfInt .f64 n = wd (decide (n < 0)) (rr (n.natAbs * U)) ∧ rr (n.natAbs * U) < 9218868437227405312 ∧
    floatOfInt .f64 n < 18446744073709551616 ∧ nan (floatOfInt .f64 n) = false ∧
    (if cmpI (vl (floatOfInt .f64 n)) (n * (U : Int)) = 1 then prv (floatOfInt .f64 n) = (downW n, 0) else floatOfInt .f64 n = downW n) ∧
    (if cmpI (vl (floatOfInt .f64 n)) (n * (U : Int)) = -1 then nxt (floatOfInt .f64 n) = (upW n, 0) else floatOfInt .f64 n = upW n) ∧
    (cmpI (vl (floatOfInt .f64 n)) (n * (U : Int)) = 0 ↔ downW n = upW n) := by
  have e := floatOfInt_eq (n := n) (by omega)
  have hv : n.natAbs * U < mg 9218868437227405312 := int_lt_inf (by omega)
  have hd := dn_lt hv
  have hd2 : dn (n.natAbs * U) + 1 < 9218868437227405312 := by
    have h1 : 36893488147419103232 * U < mg 9218868437227405311 := by decide +kernel
    have h2 : n.natAbs * U ≤ 9223372036854775808 * U := Nat.mul_le_mul_right _ (by omega)
    have := @dn_lt (n.natAbs * U) 9218868437227405311 (by omega)
    omega
  have h1 := dn_le (n.natAbs * U)
  have h2 := lt_dn (n.natAbs * U)
  have h3 := rr_or (n.natAbs * U)
  have hn : n * (U : Int) = (if decide (n < 0) then -1 else 1) * ((n.natAbs * U : Nat) : Int) := by
    rw [Int.natCast_mul, ← Int.mul_assoc]
    congr 1
    by_cases c : n < 0
    · rw [decide_eq_true c, if_pos rfl]; omega
    · rw [decide_eq_false c, if_neg (by decide)]; omega
  have hrl : rr (n.natAbs * U) < 9218868437227405312 := by omega
  have hvl := @vl_wd (decide (n < 0)) (rr (n.natAbs * U)) (by omega)
  rw [e]
  refine ⟨rfl, hrl, wd_lt (by omega), nan_wd (by omega), ?_⟩
  rw [hvl, hn]
  unfold downW upW
  generalize n.natAbs * U = v at *
  unfold upr
  have m1 : mg (dn v) = v ∨ mg (dn v) ≠ v := by omega
  by_cases c : n < 0
  · rw [decide_eq_true c]
    simp only [if_true, c]
    rcases h3 with h3 | ⟨h3, h4⟩
    · rw [h3]
      rcases m1 with m1 | m1
      · have hc : cmpI (-1 * (mg (dn v) : Int)) (-1 * (v : Int)) = 0 := (cmpI_eq (by omega) (by omega)).symm
        rw [hc, if_pos m1]; simp
      · have hc : cmpI (-1 * (mg (dn v) : Int)) (-1 * (v : Int)) = 1 := (cmpI_gt (by omega)).symm
        rw [hc, if_neg m1]
        refine ⟨by rw [if_pos rfl, prv_neg hd], by rw [if_neg (by decide)], ⟨fun h => by omega, fun h => ?_⟩⟩
        unfold wd at h; simp at h
    · rw [h3]
      have hc : cmpI (-1 * (mg (dn v + 1) : Int)) (-1 * (v : Int)) = -1 := (cmpI_lt (by omega)).symm
      rw [hc, if_neg h4]
      refine ⟨by rw [if_neg (by decide)], by rw [if_pos rfl, nxt_neg (by omega) (by omega), Nat.add_sub_cancel], ⟨fun h => by omega, fun h => ?_⟩⟩
      unfold wd at h; simp at h
  · rw [decide_eq_false c]
    simp only [c, if_false, Bool.false_eq_true]
    have hw : ∀ r, wd false r = r := fun r => by unfold wd; simp
    rw [hw]
    rcases h3 with h3 | ⟨h3, h4⟩
    · rw [h3]
      rcases m1 with m1 | m1
      · have hc : cmpI (1 * (mg (dn v) : Int)) (1 * (v : Int)) = 0 := (cmpI_eq (by omega) (by omega)).symm
        rw [hc, if_pos m1]; simp
      · have hc : cmpI (1 * (mg (dn v) : Int)) (1 * (v : Int)) = -1 := (cmpI_lt (by omega)).symm
        rw [hc, if_neg m1]
        refine ⟨by rw [if_neg (by decide)], by rw [if_pos rfl, nxt_pos hd], ⟨fun h => by omega, fun h => by omega⟩⟩
    · rw [h3]
      have hc : cmpI (1 * (mg (dn v + 1) : Int)) (1 * (v : Int)) = 1 := (cmpI_gt (by omega)).symm
      rw [hc, if_neg h4]
      refine ⟨by rw [if_pos rfl, prv_pos (by omega) (by omega), Nat.add_sub_cancel], by rw [if_neg (by decide)], ⟨fun h => by omega, fun h => by omega⟩⟩

theorem down_any (n : Int) (w : World) (l0 : -9223372036854775808 ≤ n) (l1 : n < 9223372036854775808) :
    Calls Tryz.prog 30 #[.int .i64 n] w fun e w' => e = .returned (.float .f64 (downW n)) ∧ w = w' := by
  obtain ⟨-, -, f1, f2, f3, -, -⟩ := near_facts l0 l1
  have ha := fun w => against_any (floatOfInt .f64 n) n w f1 f2 l0 l1
  have hp := fun w => prev_any (floatOfInt .f64 n) w f1
  have HA := Lib.hid ha; have HP := Lib.hid hp
  clear ha hp f1 f2
  by_cases c : cmpI (vl (floatOfInt .f64 n)) (n * (U : Int)) = 1
  · rw [if_pos c] at f3
    have hc : (cmpI (vl (floatOfInt .f64 n)) (n * (U : Int)) == 1) = true := by simp [c]
    have F3 := Lib.hid f3; clear f3 c l0 l1
    go_enter Tryz.func30, Tryz.ntmps30
    go_wp2_with (first | (go_at_call 56; refine (HA.out _).mono ?_; rintro e w' ⟨rfl, rfl⟩) | (go_at_call 58; refine (HP.out _).mono ?_; rintro e w' ⟨rfl, rfl⟩) | go_in)
    go_ret
    exact ⟨rf (by rw [F3.out]), rfl⟩
  · rw [if_neg c] at f3
    have hc : (cmpI (vl (floatOfInt .f64 n)) (n * (U : Int)) == 1) = false := by simpa using c
    have F3 := Lib.hid f3; clear f3 c l0 l1
    go_enter Tryz.func30, Tryz.ntmps30
    go_wp2_with (first | (go_at_call 56; refine (HA.out _).mono ?_; rintro e w' ⟨rfl, rfl⟩) | go_in)
    go_ret
    exact ⟨rf F3.out, rfl⟩

theorem up_any (n : Int) (w : World) (l0 : -9223372036854775808 ≤ n) (l1 : n < 9223372036854775808) :
    Calls Tryz.prog 31 #[.int .i64 n] w fun e w' => e = .returned (.float .f64 (upW n)) ∧ w = w' := by
  obtain ⟨-, -, f1, f2, -, f3, -⟩ := near_facts l0 l1
  have ha := fun w => against_any (floatOfInt .f64 n) n w f1 f2 l0 l1
  have hp := fun w => next_any (floatOfInt .f64 n) w f1
  have HA := Lib.hid ha; have HP := Lib.hid hp
  clear ha hp f1 f2
  by_cases c : cmpI (vl (floatOfInt .f64 n)) (n * (U : Int)) = -1
  · rw [if_pos c] at f3
    have hc : (cmpI (vl (floatOfInt .f64 n)) (n * (U : Int)) == -1) = true := by simp [c]
    have F3 := Lib.hid f3; clear f3 c l0 l1
    go_enter Tryz.func31, Tryz.ntmps31
    go_wp2_with (first | (go_at_call 56; refine (HA.out _).mono ?_; rintro e w' ⟨rfl, rfl⟩) | (go_at_call 59; refine (HP.out _).mono ?_; rintro e w' ⟨rfl, rfl⟩) | go_in)
    go_ret
    exact ⟨rf (by rw [F3.out]), rfl⟩
  · rw [if_neg c] at f3
    have hc : (cmpI (vl (floatOfInt .f64 n)) (n * (U : Int)) == -1) = false := by simpa using c
    have F3 := Lib.hid f3; clear f3 c l0 l1
    go_enter Tryz.func31, Tryz.ntmps31
    go_wp2_with (first | (go_at_call 56; refine (HA.out _).mono ?_; rintro e w' ⟨rfl, rfl⟩) | go_in)
    go_ret
    exact ⟨rf F3.out, rfl⟩

theorem exact_any (n : Int) (w : World) (l0 : -9223372036854775808 ≤ n) (l1 : n < 9223372036854775808) :
    Calls Tryz.prog 28 #[.int .i64 n] w fun e w' => e = .returned (.bool (decide (downW n = upW n))) ∧ w = w' := by
  obtain ⟨-, -, f1, f2, -, -, f3⟩ := near_facts l0 l1
  have ha := fun w => against_any (floatOfInt .f64 n) n w f1 f2 l0 l1
  have HA := Lib.hid ha
  have F3 := Lib.hid f3
  clear ha f1 f2 f3
  go_enter Tryz.func28, Tryz.ntmps28
  go_wp2_with (first | (go_at_call 56; refine (HA.out _).mono ?_; rintro e w' ⟨rfl, rfl⟩))
  go_ret
  exact ⟨rb (by rw [Bool.eq_iff_iff, beq_iff_eq, decide_eq_true_eq]; exact F3.out), rfl⟩

def fits (f : Int) : Bool := decide (-9223372036854775808 ≤ f) && decide (f < 9223372036854775808)
def wholeC (f : Int) : Int × Int := if fits f then (f, 0) else (0, 15)

theorem ret2_ii {a b c d : Int} {k k' : IntKind} (h : a = b) (h2 : c = d) : Ending.returned (.tuple #[.int k a, .int k' c]) = .returned (.tuple #[.int k b, .int k' d]) := by rw [h, h2]

/-- What a floor or a ceiling is worth, and whether it fits. -/
theorem int_facts (up : Bool) {x : Nat} (hx : x < 18446744073709551616) (hn : nan x = false) :
    intW up x < 18446744073709551616 ∧ nan (intW up x) = false ∧
    ((fits (intV up (vl x)) = true ∧ vl (intW up x) = intV up (vl x) * (U : Int)) ∨
     (fits (intV up (vl x)) = false ∧ (9223372036854775808 * (U : Int) ≤ vl (intW up x) ∨ vl (intW up x) < -9223372036854775808 * (U : Int)))) := by
  obtain ⟨y1, y2, y3⟩ := intW_spec up hx hn
  refine ⟨y1, y2, ?_⟩
  have hU := U_posI
  rcases y3 with ⟨h, he⟩ | ⟨_, he⟩
  · right
    have hb : (36893488147419103232 * (U : Int)) < (mg 9218868437227405312 : Int) := by have := big_lt; omega
    rw [he]
    rcases vl_inf hx h with ⟨_, e⟩ | ⟨_, e⟩ <;> rw [e]
    · refine ⟨?_, Or.inl (by omega)⟩
      have : 9223372036854775808 ≤ intV up (mg 9218868437227405312 : Int) := by
        unfold intV
        split
        · have : -(mg 9218868437227405312 : Int) / (U : Int) < -9223372036854775807 := Int.ediv_lt_of_lt_mul hU (by omega)
          omega
        · exact Int.le_ediv_of_mul_le hU (by omega)
      unfold fits
      rw [decide_eq_false (show ¬ intV up (mg 9218868437227405312 : Int) < 9223372036854775808 by omega), Bool.and_false]
    · refine ⟨?_, Or.inr (by omega)⟩
      have : intV up (-(mg 9218868437227405312 : Int)) < -9223372036854775808 := by
        unfold intV
        split
        · have : 9223372036854775809 ≤ -(-(mg 9218868437227405312 : Int)) / (U : Int) := Int.le_ediv_of_mul_le hU (by omega)
          omega
        · exact Int.ediv_lt_of_lt_mul hU (by omega)
      unfold fits
      rw [decide_eq_false (show ¬ -9223372036854775808 ≤ intV up (-(mg 9218868437227405312 : Int)) by omega), Bool.false_and]
  · rw [he]
    generalize intV up (vl x) = f
    unfold fits
    by_cases c1 : -9223372036854775808 ≤ f
    · by_cases c2 : f < 9223372036854775808
      · left; simp [c1, c2]
      · right
        refine ⟨by simp [c2], Or.inl (Int.mul_le_mul_of_nonneg_right (by omega) (by omega))⟩
    · right
      refine ⟨by simp [c1], Or.inr (Int.mul_lt_mul_of_pos_right (by omega) hU)⟩

def DrewI (w : World) (a b : Int) (e : Ending) (w' : World) : Prop := ∃ n, e = .returned (.tuple #[.int .i64 a, .int .i64 b]) ∧ w' = w.drewN n

end Fl
end Go.Proofs.YtmebmfgmopdieaaGreatDoor
