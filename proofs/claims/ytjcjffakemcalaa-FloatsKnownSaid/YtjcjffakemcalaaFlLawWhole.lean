/- THE WALK of FloatsWhole: it returns true, and changes nothing but the count of draws. -/
import Derived.Test.YtjcjffakemcalaaFlLawNear
set_option linter.unusedSimpArgs false
set_option linter.unusedVariables false
namespace Go.Proofs.Ytjcjffakemcalaa
open Go.RowKit
namespace Fl

def rfC (x : Nat) : Int × Bool := if fits (vl x / (U : Int)) then (vl x / (U : Int), true) else (0, false)

theorem rfloor_any (x : Nat) (w : World) (hx : x < 18446744073709551616) (hn : nan x = false) :
    Calls Try.prog 25 #[.float .f64 x] w fun e w' => e = .returned (.tuple #[.int .i64 (rfC x).1, .bool (rfC x).2]) ∧ w = w' := by
  have hU := U_posI
  unfold rfC fits
  by_cases c : -9223372036854775808 ≤ vl x / (U : Int) ∧ vl x / (U : Int) < 9223372036854775808
  · rw [decide_eq_true c.1, decide_eq_true c.2, if_pos (by decide)]
    exact rfloor_in x _ w hx hn rfl c.1 c.2
  · have h : 9223372036854775808 * (U : Int) ≤ vl x ∨ vl x < -9223372036854775808 * (U : Int) := by
      by_cases c1 : -9223372036854775808 ≤ vl x / (U : Int)
      · left
        have c2 : 9223372036854775808 ≤ vl x / (U : Int) := by omega
        exact (Int.le_ediv_iff_mul_le hU).1 c2
      · right
        have c2 : vl x / (U : Int) < -9223372036854775808 := by omega
        exact (Int.ediv_lt_iff_lt_mul hU).1 c2
    have e : (decide (-9223372036854775808 ≤ vl x / (U : Int)) && decide (vl x / (U : Int) < 9223372036854775808)) = false := by
      rw [← Bool.decide_and]; exact decide_eq_false c
    rw [e, if_neg (by decide)]
    exact rfloor_out x w hx hn h

/-- There is no double between 2^63 and its neighbours. -/
theorem gap_neg {x : Nat} (hx : x < 18446744073709551616) (h : vl x < -9223372036854775808 * (U : Int)) : vl x ≤ -9223372036854775809 * (U : Int) := by
  rw [vl_eq hx] at h ⊢
  have e1 : mg 4890909195324358656 = 9223372036854775808 * U := by decide +kernel
  have e2 : 9223372036854775809 * U ≤ mg 4890909195324358657 := by decide +kernel
  by_cases s : 9223372036854775808 ≤ x
  · rw [decide_eq_true s, if_pos rfl] at h ⊢
    have := (@mg_lt 4890909195324358656 (x % 9223372036854775808)).1 (by omega)
    have := (@mg_le 4890909195324358657 (x % 9223372036854775808)).2 (by omega)
    omega
  · rw [decide_eq_false s, if_neg (by decide)] at h
    have := U_pos
    omega
theorem gap_pos {x : Nat} (hx : x < 18446744073709551616) (h : vl x < 9223372036854775808 * (U : Int)) : vl x ≤ 9223372036854775807 * (U : Int) := by
  rw [vl_eq hx] at h ⊢
  have e1 : mg 4890909195324358656 = 9223372036854775808 * U := by decide +kernel
  have e2 : mg 4890909195324358655 ≤ 9223372036854775807 * U := by decide +kernel
  have := U_pos
  by_cases s : 9223372036854775808 ≤ x
  · rw [decide_eq_true s, if_pos rfl]
    omega
  · rw [decide_eq_false s, if_neg (by decide)] at h ⊢
    have := (@mg_lt (x % 9223372036854775808) 4890909195324358656).1 (by omega)
    have := (@mg_le (x % 9223372036854775808) 4890909195324358655).2 (by omega)
    omega

/-- The four ways of the first half. -/
theorem whole_cases {x : Nat} (hx : x < 18446744073709551616) (hn : nan x = false) :
    (∃ F C, floorC x = (F, 0) ∧ rfC x = (F, true) ∧ ceilC x = (C, 0) ∧ rfC (negW x) = (-C, true) ∧ (FloatKind.f64.format.order x 14114281232179134464 == some Ordering.eq) = false ∧ -9223372036854775808 < C ∧ C < 9223372036854775808) ∨
    (∃ F, floorC x = (F, 0) ∧ rfC x = (F, true) ∧ ceilC x = (-9223372036854775808, 0) ∧ rfC (negW x) = (0, false) ∧ (FloatKind.f64.format.order x 14114281232179134464 == some Ordering.eq) = true) ∨
    (floorC x = (0, 15) ∧ rfC x = (0, false) ∧ ceilC x = (0, 15) ∧ rfC (negW x) = (0, false) ∧ (FloatKind.f64.format.order x 14114281232179134464 == some Ordering.eq) = false) ∨
    (floorC x = (0, 15) ∧ rfC x = (0, false) ∧ ceilC x = (0, 15) ∧ rfC (negW x) = (-9223372036854775808, true) ∧ (FloatKind.f64.format.order x 14114281232179134464 == some Ordering.eq) = false) := by
  have hU := U_posI
  have heq := eq_iff hx (show 14114281232179134464 < 18446744073709551616 by decide) hn (by decide)
  rw [vl_ngreat] at heq
  rw [heq]
  have hng := gap_neg hx
  have hpg := gap_pos hx
  have e1 : floorC x = wholeC (vl x / (U : Int)) := by unfold floorC; rw [hn]; rfl
  have e2 : ceilC x = wholeC (-((-vl x) / (U : Int))) := by unfold ceilC; rw [hn]; rfl
  have e3 : rfC (negW x) = if fits ((-vl x) / (U : Int)) then ((-vl x) / (U : Int), true) else (0, false) := by unfold rfC; rw [vl_negW hx]
  rw [e1, e2, e3]
  unfold rfC wholeC fits
  have f0 : vl x / (U : Int) * (U : Int) ≤ vl x := Int.ediv_mul_le _ (by omega)
  have f1 : vl x < (vl x / (U : Int) + 1) * (U : Int) := Int.lt_ediv_add_one_mul_self _ hU
  have g0 : (-vl x) / (U : Int) * (U : Int) ≤ -vl x := Int.ediv_mul_le _ (by omega)
  have g1 : -vl x < ((-vl x) / (U : Int) + 1) * (U : Int) := Int.lt_ediv_add_one_mul_self _ hU
  have cmp1 : ∀ a b : Int, a ≤ b ↔ a * (U : Int) ≤ b * (U : Int) := fun a b => ⟨fun h => Int.mul_le_mul_of_nonneg_right h (by omega), fun h => Int.le_of_mul_le_mul_right h hU⟩
  generalize vl x / (U : Int) = F at *
  generalize (-vl x) / (U : Int) = D at *
  generalize vl x = v at *
  have i1 := cmp1 9223372036854775808 F
  have i2 := cmp1 (F + 1) 9223372036854775808
  have i3 := cmp1 (F + 1) (-9223372036854775808)
  have i4 := cmp1 (-9223372036854775808) F
  have j1 := cmp1 9223372036854775808 D
  have j2 := cmp1 (D + 1) 9223372036854775808
  have j3 := cmp1 (D + 1) (-9223372036854775808)
  have j4 := cmp1 (-9223372036854775808) D
  have j5 := cmp1 (D + 1) (-9223372036854775807)
  have j6 := cmp1 9223372036854775809 D
  have j7 := cmp1 (D + 1) 9223372036854775809
  have j8 := cmp1 D (-9223372036854775808)
  by_cases c1 : v < -9223372036854775808 * (U : Int)
  · have := hng c1
    right; right; left
    rw [if_neg (by simp; omega), if_neg (by simp; omega), if_neg (by simp; omega), if_neg (by simp; omega)]
    exact ⟨rfl, rfl, rfl, rfl, by simp; omega⟩
  · by_cases c2 : v < 9223372036854775808 * (U : Int)
    · have := hpg c2
      have hF : -9223372036854775808 ≤ F ∧ F < 9223372036854775808 := by omega
      rw [if_pos (by simp; omega), if_pos (by simp; omega)]
      by_cases c3 : v = -9223372036854775808 * (U : Int)
      · have hD : D = 9223372036854775808 := by omega
        subst hD
        right; left
        exact ⟨F, rfl, rfl, by decide, by decide, by simp [c3]⟩
      · left
        have hD : -9223372036854775808 < D ∧ D < 9223372036854775808 := by omega
        rw [if_pos (by simp; omega), if_pos (by simp; omega)]
        exact ⟨F, -D, rfl, rfl, rfl, by rw [Int.neg_neg], by simp [c3], by omega, by omega⟩
    · have hF : 9223372036854775808 ≤ F := by omega
      rw [if_neg (by simp; omega), if_neg (by simp; omega)]
      by_cases c3 : D = -9223372036854775808
      · subst c3
        right; right; right
        exact ⟨rfl, rfl, by decide, by decide, by simp; omega⟩
      · right; right; left
        have hD : D < -9223372036854775808 := by omega
        rw [if_neg (by simp; omega), if_neg (by simp; omega)]
        exact ⟨rfl, rfl, rfl, rfl, by simp; omega⟩

/-- The three ways of the second half. -/
theorem side_cases {x : Nat} {n : Int} (hx : x < 18446744073709551616) (hn : nan x = false) (l0 : -9223372036854775808 ≤ n) (l1 : n < 9223372036854775808) :
    let d := downW n; let u := upW n; let o := FloatKind.f64.format.order
    (o u x == some Ordering.gt) = decide (vl x < n * (U : Int)) ∧ (o d x == some Ordering.gt) = (decide (vl x < n * (U : Int)) && (o d x == some Ordering.gt)) ∧
    (o d x == some Ordering.lt) = decide (n * (U : Int) < vl x) ∧ (o u x == some Ordering.lt) = (decide (n * (U : Int) < vl x) && (o u x == some Ordering.lt)) ∧
    (n * (U : Int) = vl x → (o d x == some Ordering.eq) = true ∧ (o u x == some Ordering.eq) = true) ∧
    (vl x < n * (U : Int) → (o u x == some Ordering.eq) = false ∧ (o d x == some Ordering.gt || o d x == some Ordering.eq) = true) ∧
    (n * (U : Int) < vl x → (o d x == some Ordering.eq) = false ∧ (o d x == some Ordering.gt || o d x == some Ordering.eq) = false ∧ (o u x == some Ordering.lt || o u x == some Ordering.eq) = true) := by
  intro d u o
  have hd := downW_lt l0 l1
  have hu := upW_lt l0 l1
  have h1 := down_le l0 l1
  have h2 := le_up l0 l1
  have h3 := @down_greatest n x l0 l1 hx
  have h4 := @up_least n x l0 l1 hx
  show (FloatKind.f64.format.order (upW n) x == some Ordering.gt) = _ ∧ (FloatKind.f64.format.order (downW n) x == some Ordering.gt) = (_ && (FloatKind.f64.format.order (downW n) x == some Ordering.gt)) ∧ (FloatKind.f64.format.order (downW n) x == some Ordering.lt) = _ ∧ (FloatKind.f64.format.order (upW n) x == some Ordering.lt) = (_ && (FloatKind.f64.format.order (upW n) x == some Ordering.lt)) ∧
    (_ → (FloatKind.f64.format.order (downW n) x == some Ordering.eq) = true ∧ (FloatKind.f64.format.order (upW n) x == some Ordering.eq) = true) ∧
    (_ → (FloatKind.f64.format.order (upW n) x == some Ordering.eq) = false ∧ (FloatKind.f64.format.order (downW n) x == some Ordering.gt || FloatKind.f64.format.order (downW n) x == some Ordering.eq) = true) ∧
    (_ → (FloatKind.f64.format.order (downW n) x == some Ordering.eq) = false ∧ (FloatKind.f64.format.order (downW n) x == some Ordering.gt || FloatKind.f64.format.order (downW n) x == some Ordering.eq) = false ∧ (FloatKind.f64.format.order (upW n) x == some Ordering.lt || FloatKind.f64.format.order (upW n) x == some Ordering.eq) = true)
  rw [ge_iff hd.1 hx hd.2 hn, le_iff hu.1 hx hu.2 hn, gt_iff hu.1 hx hu.2 hn, gt_iff hd.1 hx hd.2 hn, lt_iff hd.1 hx hd.2 hn, lt_iff hu.1 hx hu.2 hn, eq_iff hd.1 hx hd.2 hn, eq_iff hu.1 hx hu.2 hn]
  simp only [← Bool.decide_and, decide_eq_decide, decide_eq_true_eq, decide_eq_false_iff_not]
  refine ⟨⟨fun h => ?_, fun h => ?_⟩, ⟨fun h => ?_, fun h => ?_⟩, ⟨fun h => ?_, fun h => ?_⟩, ⟨fun h => ?_, fun h => ?_⟩, fun h => ?_, fun h => ?_, fun h => ?_⟩ <;> omega

set_option maxRecDepth 100000 in
set_option maxHeartbeats 4000000 in
theorem lawWhole_nan (x : Nat) (n : Int) (w : World) (hx : x < 18446744073709551616) (l0 : -9223372036854775808 ≤ n) (l1 : n < 9223372036854775808) (hn : nan x = true) :
    Calls Try.prog 6 #[.float .f64 x, .int .i64 n] w (DrewB w true) := by
  have HL := Lib.hid lives_any
  have hF := fun w => floor_any x w hx
  have hC := fun w => ceil_any x w hx
  have hM := fun w => cmp_any x n w hx l0 l1
  rw [show floorC x = (0, 1) by unfold floorC; rw [hn]; rfl] at hF
  rw [show ceilC x = (0, 1) by unfold ceilC; rw [hn]; rfl] at hC
  rw [show cmpC x n = (0, 1) by unfold cmpC; rw [hn]; rfl] at hM
  have h1 := ne_self hx
  rw [hn] at h1
  have HF := Lib.hid hF; have HC := Lib.hid hC; have HM := Lib.hid hM
  clear hF hC hM hn hx
  go_enter Try.func6, Try.ntmps6
  go_wp2_with (first
      | (go_at_call 23; ((with_reducible refine (HF.out _).mono ?_); rintro e w' ⟨k, rfl, rfl⟩))
      | (go_at_call 24; ((with_reducible refine (HC.out _).mono ?_); rintro e w' ⟨k, rfl, rfl⟩))
      | (go_at_call 22; ((with_reducible refine (HM.out _).mono ?_); rintro e w' ⟨rfl, rfl⟩))
      | (go_at_call 11; ((with_reducible refine (HL.out _).mono ?_); rintro e w' ⟨k, rfl, rfl⟩)))
  go_ret
  exact ⟨_, rfl, rfl⟩
end Fl
end Go.Proofs.Ytjcjffakemcalaa
