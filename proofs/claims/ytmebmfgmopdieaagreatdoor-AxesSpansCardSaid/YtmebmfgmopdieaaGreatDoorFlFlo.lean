/- Floors, comparisons with whole numbers: plain facts on the words of doubles. No program in sight. -/
import Derived.Test.YtmebmfgmopdieaaGreatDoorFlSpec
import Derived.Deep.Draws
set_option linter.unusedSimpArgs false
set_option linter.unusedVariables false
namespace Go.Proofs.YtmebmfgmopdieaaGreatDoor
namespace Fl

/-- The word of a floor (up = false) or a ceiling (up = true). -/
def intW (up : Bool) (x : Nat) : Nat := if x % 9223372036854775808 = 9218868437227405312 then x else wd (decide (9223372036854775808 ≤ x)) (dn (cutv (decide (9223372036854775808 ≤ x) ^^ up) (mg (x % 9223372036854775808)) * U))

/-- The floor or the ceiling of what a word is worth. -/
def intV (up : Bool) (v : Int) : Int := if up then -((-v) / (U : Int)) else v / (U : Int)

theorem cutv_int (s up : Bool) (v : Nat) : (if s then -1 else 1) * (cutv (s ^^ up) v : Int) = intV up ((if s then -1 else 1) * (v : Int)) := by
  have hp := U_pos
  unfold cutv intV
  have h1 : ((v / U : Nat) : Int) = (v : Int) / (U : Int) := Int.natCast_ediv v U
  have h2 : ((v % U : Nat) : Int) = (v : Int) % (U : Int) := Int.natCast_emod v U
  have neg : (-(v : Int)) / (U : Int) = -((v / U + (v % U != 0).toNat : Nat) : Int) := by
    by_cases hz : v % U = 0
    · rw [hz]
      have := Nat.div_add_mod v U
      have e : (v : Int) = (U : Int) * ((v / U : Nat) : Int) := by rw [← Int.natCast_mul]; omega
      have e2 : -(v : Int) = (U : Int) * (-((v / U : Nat) : Int)) := by rw [Int.mul_neg, ← e]
      rw [e2, Int.mul_ediv_cancel_left _ (by omega)]
      simp
    · have hz' : (v % U != 0) = true := by simpa using hz
      rw [hz']
      have a := Nat.div_add_mod v U
      have b := Nat.mod_lt v hp
      have e : (v : Int) = (U : Int) * ((v / U : Nat) : Int) + ((v % U : Nat) : Int) := by rw [← Int.natCast_mul]; omega
      have e2 : -(v : Int) = ((U : Int) - ((v % U : Nat) : Int)) + (-((v / U : Nat) : Int) - 1) * (U : Int) := by
        rw [e, Int.sub_mul, Int.neg_mul, Int.mul_comm ((v / U : Nat) : Int)]; omega
      rw [e2, Int.add_mul_ediv_right _ _ (by omega), Int.ediv_eq_zero_of_lt (by omega) (by omega)]
      simp; omega
  cases s <;> cases up
  · simp
  · simp only [Bool.false_xor, Bool.true_and, if_true, Bool.false_eq_true, if_false, Int.one_mul]
    rw [neg]; omega
  · simp only [Bool.xor_false, Bool.true_and, if_true, Bool.false_eq_true, if_false]
    rw [Int.neg_mul, Int.one_mul, Int.neg_mul, Int.one_mul, neg]
  · simp only [Bool.xor_self, Bool.false_and, if_true, Bool.toNat_false, Nat.add_zero]
    rw [Int.neg_mul, Int.one_mul, Int.neg_mul, Int.one_mul, Int.neg_neg, h1]

theorem intW_spec (up : Bool) {x : Nat} (hx : x < 18446744073709551616) (hn : nan x = false) :
    intW up x < 18446744073709551616 ∧ nan (intW up x) = false ∧
      ((x % 9223372036854775808 = 9218868437227405312 ∧ intW up x = x) ∨ (x % 9223372036854775808 < 9218868437227405312 ∧ vl (intW up x) = intV up (vl x) * (U : Int))) := by
  have hn' : x % 9223372036854775808 ≤ 9218868437227405312 := by unfold nan at hn; simp at hn; exact hn
  unfold intW
  by_cases h : x % 9223372036854775808 = 9218868437227405312
  · rw [if_pos h]; exact ⟨hx, hn, Or.inl ⟨h, rfl⟩⟩
  · rw [if_neg h]
    have hlt : x % 9223372036854775808 < 9218868437227405312 := by omega
    obtain ⟨h1, h2⟩ := cutv_rep (decide (9223372036854775808 ≤ x) ^^ up) hlt
    refine ⟨wd_lt (by omega), nan_wd (by omega), Or.inr ⟨hlt, ?_⟩⟩
    rw [vl_wd (by omega), h1, vl_eq hx, Int.natCast_mul, ← Int.mul_assoc, cutv_int]

theorem vl_inf {x : Nat} (hx : x < 18446744073709551616) (h : x % 9223372036854775808 = 9218868437227405312) :
    (x = 9218868437227405312 ∧ vl x = (mg 9218868437227405312 : Int)) ∨ (x = 18442240474082181120 ∧ vl x = -(mg 9218868437227405312 : Int)) := by
  rw [vl_eq hx, h]
  by_cases c : 9223372036854775808 ≤ x
  · right; refine ⟨by omega, ?_⟩; rw [decide_eq_true c, if_pos rfl]; omega
  · left; refine ⟨by omega, ?_⟩; rw [decide_eq_false c, if_neg (by decide)]; omega

theorem vl_great : vl 4890909195324358656 = 9223372036854775808 * (U : Int) := by decide +kernel
theorem vl_ngreat : vl 14114281232179134464 = -9223372036854775808 * (U : Int) := by decide +kernel

theorem ge_iff {a b : Nat} (ha : a < 18446744073709551616) (hb : b < 18446744073709551616) (h : nan a = false) (h2 : nan b = false) :
    (FloatKind.f64.format.order a b == some Ordering.gt || FloatKind.f64.format.order a b == some Ordering.eq) = decide (vl b ≤ vl a) := by
  rw [f_num ha hb h h2]
  rcases Int.lt_trichotomy (vl a) (vl b) with c | c | c
  · rw [Int.compare_eq_lt.2 c, decide_eq_false (by omega)]; rfl
  · rw [c, decide_eq_true (by omega)]; simp
  · rw [Int.compare_eq_gt.2 c, decide_eq_true (by omega)]; rfl

theorem le_iff {a b : Nat} (ha : a < 18446744073709551616) (hb : b < 18446744073709551616) (h : nan a = false) (h2 : nan b = false) :
    (FloatKind.f64.format.order a b == some Ordering.lt || FloatKind.f64.format.order a b == some Ordering.eq) = decide (vl a ≤ vl b) := by
  rw [f_num ha hb h h2]
  rcases Int.lt_trichotomy (vl a) (vl b) with c | c | c
  · rw [Int.compare_eq_lt.2 c, decide_eq_true (by omega)]; rfl
  · rw [c, decide_eq_true (by omega)]; simp
  · rw [Int.compare_eq_gt.2 c, decide_eq_false (by omega)]; rfl

theorem lt_iff {a b : Nat} (ha : a < 18446744073709551616) (hb : b < 18446744073709551616) (h : nan a = false) (h2 : nan b = false) :
    (FloatKind.f64.format.order a b == some Ordering.lt) = decide (vl a < vl b) := by
  rw [f_num ha hb h h2]
  rcases Int.lt_trichotomy (vl a) (vl b) with c | c | c
  · rw [Int.compare_eq_lt.2 c, decide_eq_true (by omega)]; rfl
  · rw [c, decide_eq_false (by omega)]; simp
  · rw [Int.compare_eq_gt.2 c, decide_eq_false (by omega)]; rfl

theorem gt_iff {a b : Nat} (ha : a < 18446744073709551616) (hb : b < 18446744073709551616) (h : nan a = false) (h2 : nan b = false) :
    (FloatKind.f64.format.order a b == some Ordering.gt) = decide (vl b < vl a) := by
  rw [f_num ha hb h h2]
  rcases Int.lt_trichotomy (vl a) (vl b) with c | c | c
  · rw [Int.compare_eq_lt.2 c, decide_eq_false (by omega)]; rfl
  · rw [c, decide_eq_false (by omega)]; simp
  · rw [Int.compare_eq_gt.2 c, decide_eq_true (by omega)]; rfl

theorem eq_iff {a b : Nat} (ha : a < 18446744073709551616) (hb : b < 18446744073709551616) (h : nan a = false) (h2 : nan b = false) :
    (FloatKind.f64.format.order a b == some Ordering.eq) = decide (vl a = vl b) := by
  rw [f_num ha hb h h2]
  rcases Int.lt_trichotomy (vl a) (vl b) with c | c | c
  · rw [Int.compare_eq_lt.2 c, decide_eq_false (by omega)]; rfl
  · rw [c, decide_eq_true (by omega)]; simp
  · rw [Int.compare_eq_gt.2 c, decide_eq_false (by omega)]; rfl

/-- 'int64(y)' of a whole y that fits. -/
theorem toInt_vl {y : Nat} {n : Int} (hy : y < 18446744073709551616) (hn : nan y = false) (hv : vl y = n * (U : Int)) (h1 : -9223372036854775808 ≤ n) (h2 : n < 9223372036854775808) :
    floatToIntVal .f64 y .i64 = some n := by
  have hU : (0 : Int) < (U : Int) := by have := U_pos; omega
  have hr : y % 9223372036854775808 < 9218868437227405312 := by
    have hn' : y % 9223372036854775808 ≤ 9218868437227405312 := by unfold nan at hn; simp at hn; exact hn
    by_cases c : y % 9223372036854775808 = 9218868437227405312
    · exfalso
      have hb : (36893488147419103232 * (U : Int)) < (mg 9218868437227405312 : Int) := by have := big_lt; omega
      rcases vl_inf hy c with ⟨_, e⟩ | ⟨_, e⟩ <;> rw [e] at hv
      · have : n * (U : Int) < 36893488147419103232 * (U : Int) := Int.mul_lt_mul_of_pos_right (by omega) hU
        omega
      · have : -36893488147419103232 * (U : Int) < n * (U : Int) := Int.mul_lt_mul_of_pos_right (by omega) hU
        omega
    · omega
  have he := vl_eq hy
  rw [hv] at he
  have hw := wd_of hy
  by_cases c : 9223372036854775808 ≤ y
  · rw [decide_eq_true c] at he hw
    rw [if_pos rfl] at he
    have hneg : n ≤ 0 := by
      by_cases q : n ≤ 0
      · exact q
      · have : 0 < n * (U : Int) := Int.mul_pos (by omega) hU
        omega
    have hc : mg (y % 9223372036854775808) = n.natAbs * U := by
      have : (mg (y % 9223372036854775808) : Int) = ((n.natAbs * U : Nat) : Int) := by
        rw [Int.natCast_mul, show ((n.natAbs : Nat) : Int) = -n from by omega, Int.neg_mul]; omega
      omega
    rw [hw, toInt_eq hr hc (by simp; omega)]
    simp; omega
  · rw [decide_eq_false c] at he hw
    rw [if_neg (by decide)] at he
    have hneg : 0 ≤ n := by
      by_cases q : 0 ≤ n
      · exact q
      · have : n * (U : Int) < 0 := Int.mul_neg_of_neg_of_pos (by omega) hU
        omega
    have hc : mg (y % 9223372036854775808) = n.natAbs * U := by
      have : (mg (y % 9223372036854775808) : Int) = ((n.natAbs * U : Nat) : Int) := by
        rw [Int.natCast_mul, show ((n.natAbs : Nat) : Int) = n from by omega]; omega
      omega
    rw [hw, toInt_eq hr hc (by simp; omega)]
    simp; omega

end Fl
end Go.Proofs.YtmebmfgmopdieaaGreatDoor
