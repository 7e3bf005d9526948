/- Whole numbers and doubles: conversion, doubling, floor and ceiling, as plain facts on Ieee.double. No program in sight. -/
import Derived.Test.YtmebmfgmopdieaaGreatDoorFlRnd
set_option linter.unusedSimpArgs false
set_option linter.unusedVariables false
namespace Go.Proofs.YtmebmfgmopdieaaGreatDoor
namespace Fl

/-- One, in units of the least positive double. -/
def E : Nat := 1074
theorem E_eq : E = 1074 := rfl
def U : Nat := 2 ^ E
theorem U_pos : 0 < U := Nat.two_pow_pos _
theorem U_pow : U = 2 ^ E := rfl
theorem big_lt : 36893488147419103232 * U < mg 9218868437227405312 := by decide +kernel

def wd (neg : Bool) (r : Nat) : Nat := if neg then 9223372036854775808 + r else r

theorem word_wd (neg : Bool) (r : Nat) : Ieee.double.word neg r = wd neg r := by
  have e : Ieee.double.signWeight = 9223372036854775808 := by decide
  unfold Ieee.Format.word wd; rw [e]

theorem wd_lt {neg : Bool} {r : Nat} (h : r ≤ 9218868437227405312) : wd neg r < 18446744073709551616 := by
  unfold wd; split <;> omega

theorem wd_mod {neg : Bool} {r : Nat} (h : r ≤ 9218868437227405312) : wd neg r % 9223372036854775808 = r := by
  unfold wd; split <;> omega

theorem wd_sign {neg : Bool} {r : Nat} (h : r ≤ 9218868437227405312) : decide (9223372036854775808 ≤ wd neg r) = neg := by
  unfold wd
  cases neg
  · simp; omega
  · simp

theorem nan_wd {neg : Bool} {r : Nat} (h : r ≤ 9218868437227405312) : nan (wd neg r) = false := by
  unfold nan; rw [wd_mod h]; simp; omega

theorem vl_wd {neg : Bool} {r : Nat} (h : r ≤ 9218868437227405312) : vl (wd neg r) = (if neg then -1 else 1) * (mg r : Int) := by
  rw [vl_eq (wd_lt h), wd_mod h, wd_sign h]

theorem wd_of {b : Nat} (hb : b < 18446744073709551616) : b = wd (decide (9223372036854775808 ≤ b)) (b % 9223372036854775808) := by
  unfold wd
  by_cases h : 9223372036854775808 ≤ b
  · rw [decide_eq_true h, if_pos rfl]; omega
  · rw [decide_eq_false h]; simp; omega

/-- Small whole numbers are doubles. -/
theorem mg_dn_int {c : Nat} (h : c < 9007199254740992) : mg (dn (c * U)) = c * U := by
  by_cases h0 : c = 0
  · subst h0; simp; decide
  · rw [dn_spec.1, U_pow, log2_mul c E h0]
    have hl : c.log2 < 53 := by rw [Nat.log2_lt h0]; exact h
    have e : c * 2 ^ E = c * 2 ^ (E - (c.log2 + E - 52)) * 2 ^ (c.log2 + E - 52) := by
      rw [Nat.mul_assoc, ← Nat.pow_add, show E - (c.log2 + E - 52) + (c.log2 + E - 52) = E from by have := E_eq; omega]
    have hp := Nat.two_pow_pos (c.log2 + E - 52)
    rw [e, Nat.mul_div_cancel _ hp]

theorem vl_int {c : Nat} (h : c * U < mg 9218868437227405312) : dn (c * U) < 9218868437227405312 := dn_lt h

theorem int_lt_inf {c : Nat} (h : c ≤ 36893488147419103232) : c * U < mg 9218868437227405312 :=
  Nat.lt_of_le_of_lt (Nat.mul_le_mul_right _ h) big_lt

/-- 'float64(n)'. -/
theorem floatOfInt_eq {n : Int} (h : n.natAbs ≤ 36893488147419103232) :
    floatOfInt .f64 n = wd (decide (n < 0)) (rr (n.natAbs * U)) := by
  have hlt := int_lt_inf h
  show Ieee.double.nearest (decide (n < 0)) n.natAbs 0 = _
  have e := nearest_eq (decide (n < 0)) n.natAbs E
  rw [show (-1074 : Int) + ((E : Nat) : Int) = 0 from by rw [E_eq]; omega] at e
  rw [e, word_wd, ← U_pow, Nat.min_eq_left (rr_le hlt)]

/-- 'x + x' of a positive one. -/
theorem add_self {r : Nat} (h : 2 * mg r < mg 9218868437227405312) :
    floatBits .add .f64 r r = some (dn (2 * mg r)) ∧ mg (dn (2 * mg r)) = 2 * mg r := by
  have hr : r < 9218868437227405312 := (@mg_lt r _).1 (by omega)
  have hrep : ∃ s, mg s = 2 * mg r := by
    by_cases c : r < 4503599627370496
    · refine ⟨2 * r, ?_⟩
      have b : mg r = r := by unfold mg; rw [if_pos c]
      rw [b]
      have a := @mgk 0 (2 * r) (by omega) (Or.inl rfl)
      rw [Nat.zero_mul, Nat.zero_add, Nat.pow_zero, Nat.mul_one] at a
      exact a
    · refine ⟨r + 4503599627370496, ?_⟩
      unfold mg
      rw [if_neg (by omega), if_neg c]
      have e1 : (r + 4503599627370496) % 4503599627370496 = r % 4503599627370496 := by omega
      have e2 : (r + 4503599627370496) / 4503599627370496 - 1 = (r / 4503599627370496 - 1) + 1 := by omega
      rw [e1, e2, Nat.pow_succ]
      generalize 2 ^ (r / 4503599627370496 - 1) = z
      generalize 4503599627370496 + r % 4503599627370496 = y
      rw [← Nat.mul_assoc, Nat.mul_comm]
  obtain ⟨s, hs⟩ := hrep
  have hd : mg (dn (2 * mg r)) = 2 * mg r := by rw [← hs, dn_mg]
  refine ⟨?_, hd⟩
  have hmod : r % 9223372036854775808 = r := by omega
  obtain ⟨m, p, hread, hv, _⟩ := read_num (b := r) (by omega) (by omega)
  rw [hmod] at hv
  have hneg : decide (9223372036854775808 ≤ r) = false := by simp; omega
  rw [hneg] at hread
  show Ieee.double.add r r = _
  unfold Ieee.Format.add
  rw [hread]
  simp only [Ieee.Datum.sum, Option.map_some, signed_pow]
  have e1 : (-1074 + (p : Int) - min (-1074 + (p : Int)) (-1074 + (p : Int))).toNat = 0 := by omega
  have e2 : min (-1074 + (p : Int)) (-1074 + (p : Int)) = -1074 + (p : Int) := by omega
  rw [e1, e2]
  have e3 : ((if (false : Bool) = true then (-1 : Int) else 1) * ((m * 2 ^ 0 : Nat) : Int) + (if (false : Bool) = true then (-1 : Int) else 1) * ((m * 2 ^ 0 : Nat) : Int)) = ((2 * m : Nat) : Int) := by
    simp; omega
  rw [e3]
  have e4 : (if ((2 * m : Nat) : Int) = 0 then false && false else decide (((2 * m : Nat) : Int) < 0)) = false := by
    split
    · rfl
    · simp; omega
  rw [e4, Int.natAbs_natCast]
  show some (Ieee.double.nearest false (2 * m) (-1074 + (p : Int))) = _
  rw [nearest_eq, word_wd, Nat.mul_assoc, ← hv, ← hs, rr_mg, dn_mg]
  have : s < 9218868437227405312 := (@mg_lt s _).1 (by omega)
  rw [Nat.min_eq_left (by omega)]
  rfl

/-- The size of a floor or of a ceiling. -/
def cutv (up : Bool) (v : Nat) : Nat := v / U + (up && v % U != 0).toNat

theorem cut_eq (way : Ieee.Toward) (up : Bool) (s : Bool) (m p : Nat) (hway : (way = .down ∧ up = s) ∨ (way = .up ∧ up = !s) ∨ (way = .zero ∧ up = false)) :
    way.cut s (m <<< (-1074 + (p : Int)).toNat) (-(-1074 + (p : Int))).toNat = cutv up (m * 2 ^ p) := by
  unfold Ieee.Toward.cut cutv
  simp only [Nat.shiftLeft_eq, Nat.one_mul]
  by_cases hp : 1074 ≤ p
  · have d1 : (-1074 + (p : Int)).toNat = p - 1074 := by omega
    have d2 : (-(-1074 + (p : Int))).toNat = 0 := by omega
    rw [d1, d2]
    have f : m * 2 ^ p = m * 2 ^ (p - 1074) * U := by rw [U_pow, Nat.mul_assoc, ← Nat.pow_add, show p - 1074 + E = p from by rw [E_eq]; omega]
    rw [f, Nat.mul_div_cancel _ U_pos, Nat.mul_mod_left]
    simp only [Nat.zero_min, Nat.pow_zero, Nat.div_one, Nat.mod_one]
    rcases hway with ⟨rfl, rfl⟩ | ⟨rfl, rfl⟩ | ⟨rfl, rfl⟩ <;> simp
  · have d1 : (-1074 + (p : Int)).toNat = 0 := by omega
    have d2 : (-(-1074 + (p : Int))).toNat = 1074 - p := by omega
    rw [d1, d2]
    simp only [Nat.pow_zero, Nat.mul_one]
    have hpp := Nat.two_pow_pos p
    have f : U = 2 ^ (1074 - p) * 2 ^ p := by rw [U_pow, ← Nat.pow_add, show 1074 - p + p = E from by rw [E_eq]; omega]
    have g1 : m * 2 ^ p / U = m / 2 ^ (1074 - p) := by rw [f, Nat.mul_div_mul_right _ _ hpp]
    have g2 : (m * 2 ^ p % U != 0) = (m % 2 ^ (1074 - p) != 0) := by
      rw [f, Nat.mul_mod_mul_right, Bool.eq_iff_iff, bne_iff_ne, bne_iff_ne]
      constructor
      · intro h e; rw [e] at h; simp at h
      · intro h e; rcases Nat.mul_eq_zero.1 e with e | e <;> omega
    rw [g1, g2]
    clear g1 g2 f
    have h1 : m / 2 ^ min (1074 - p) (m.log2 + 2) = m / 2 ^ (1074 - p) := by
      by_cases c : 1074 - p ≤ m.log2 + 2
      · rw [Nat.min_eq_left c]
      · rw [Nat.min_eq_right (by omega)]
        have a : m < 2 ^ (m.log2 + 1) := Nat.lt_log2_self
        have b : m < 2 ^ (m.log2 + 2) := Nat.lt_of_lt_of_le a (Nat.pow_le_pow_right (by omega) (by omega))
        have b' : m < 2 ^ (1074 - p) := Nat.lt_of_lt_of_le a (Nat.pow_le_pow_right (by omega) (by omega))
        rw [Nat.div_eq_of_lt b, Nat.div_eq_of_lt b']
    have h2 : m % 2 ^ min (1074 - p) (m.log2 + 2) = m % 2 ^ (1074 - p) := by
      by_cases c : 1074 - p ≤ m.log2 + 2
      · rw [Nat.min_eq_left c]
      · rw [Nat.min_eq_right (by omega)]
        have a : m < 2 ^ (m.log2 + 1) := Nat.lt_log2_self
        have b : m < 2 ^ (m.log2 + 2) := Nat.lt_of_lt_of_le a (Nat.pow_le_pow_right (by omega) (by omega))
        have b' : m < 2 ^ (1074 - p) := Nat.lt_of_lt_of_le a (Nat.pow_le_pow_right (by omega) (by omega))
        rw [Nat.mod_eq_of_lt b, Nat.mod_eq_of_lt b']
    rw [h1, h2]
    generalize m % 2 ^ (1074 - p) = y
    generalize m / 2 ^ (1074 - p) = x
    rcases hway with ⟨rfl, rfl⟩ | ⟨rfl, rfl⟩ | ⟨rfl, rfl⟩ <;> simp

/-- What is cut is a double. -/
theorem cutv_rep (up : Bool) {r : Nat} (hr : r < 9218868437227405312) : mg (dn (cutv up (mg r) * U)) = cutv up (mg r) * U ∧ dn (cutv up (mg r) * U) < 9218868437227405312 := by
  obtain ⟨m, p, _, hv, _, hm⟩ := read_num (b := r) (by omega) (by omega)
  have hmod : r % 9223372036854775808 = r := by omega
  rw [hmod] at hv
  by_cases hp : 1074 ≤ p
  · have f : m * 2 ^ p = m * 2 ^ (p - 1074) * U := by rw [U_pow, Nat.mul_assoc, ← Nat.pow_add, show p - 1074 + E = p from by rw [E_eq]; omega]
    have e : cutv up (mg r) * U = mg r := by
      unfold cutv
      rw [hv, f, Nat.mul_div_cancel _ U_pos, Nat.mul_mod_left]; simp
    rw [e, dn_mg]
    exact ⟨rfl, hr⟩
  · have hc : cutv up (mg r) < 9007199254740992 := by
      unfold cutv
      rw [hv]
      have hpp := Nat.two_pow_pos p
      have f : U = 2 ^ (1074 - p) * 2 ^ p := by rw [U_pow, ← Nat.pow_add, show 1074 - p + p = E from by rw [E_eq]; omega]
      have g1 : m * 2 ^ p / U = m / 2 ^ (1074 - p) := by rw [f, Nat.mul_div_mul_right _ _ hpp]
      have g3 : m / 2 ^ (1074 - p) ≤ m / 2 := Nat.div_le_div_left (by have : 2 ^ 1 ≤ 2 ^ (1074 - p) := Nat.pow_le_pow_right (by omega) (by omega); omega) (by omega)
      rw [g1]
      have := Bool.toNat_le (up && m * 2 ^ p % U != 0)
      omega
    exact ⟨mg_dn_int hc, vl_int (int_lt_inf (by omega))⟩

/-- Floor and ceiling of a finite double. -/
theorem integral_eq (way : Ieee.Toward) (up : Bool) {b : Nat} (hb : b < 18446744073709551616) (h : b % 9223372036854775808 < 9218868437227405312)
    (hway : (way = .down ∧ up = decide (9223372036854775808 ≤ b)) ∨ (way = .up ∧ up = !decide (9223372036854775808 ≤ b))) :
    Ieee.double.write ((Ieee.double.read b).integral way) = wd (decide (9223372036854775808 ≤ b)) (dn (cutv up (mg (b % 9223372036854775808)) * U)) := by
  obtain ⟨m, p, hread, hv, _⟩ := read_num hb h
  obtain ⟨h1, h2⟩ := cutv_rep up h
  rw [hread]
  simp only [Ieee.Datum.integral]
  rw [cut_eq way up _ m p (by rcases hway with h | h; exact Or.inl h; exact Or.inr (Or.inl h)), ← hv]
  show Ieee.double.nearest _ _ 0 = _
  have e := nearest_eq (decide (9223372036854775808 ≤ b)) (cutv up (mg (b % 9223372036854775808))) E
  rw [show (-1074 : Int) + ((E : Nat) : Int) = 0 from by rw [E_eq]; omega] at e
  rw [e, word_wd, ← U_pow]
  rw [show rr (cutv up (mg (b % 9223372036854775808)) * U) = dn (cutv up (mg (b % 9223372036854775808)) * U) from by
    have := rr_mg (dn (cutv up (mg (b % 9223372036854775808)) * U)); rw [h1] at this; exact this]
  rw [Nat.min_eq_left (by omega)]

/-- 'int64(x)' of a whole x that fits. -/
theorem toInt_eq {s : Bool} {r c : Nat} (hr : r < 9218868437227405312) (hc : mg r = c * U) (hfit : if s then c ≤ 9223372036854775808 else c < 9223372036854775808) :
    floatToIntVal .f64 (wd s r) .i64 = some (if s then -(c : Int) else (c : Int)) := by
  have hb := @wd_lt s r (by omega)
  have hmod := @wd_mod s r (by omega)
  have hsg := @wd_sign s r (by omega)
  obtain ⟨m, p, hread, hv, _⟩ := read_num hb (by rw [hmod]; exact hr)
  rw [hmod] at hv
  rw [hsg] at hread
  unfold floatToIntVal
  show (match (Ieee.double.read (wd s r)).toInt .zero with | some n => if IntKind.i64.min ≤ n ∧ n ≤ IntKind.i64.max then some n else none | none => none) = _
  rw [hread]
  simp only [Ieee.Datum.toInt, Ieee.Datum.integral]
  rw [cut_eq .zero false s m p (Or.inr (Or.inr ⟨rfl, rfl⟩)), ← hv, hc]
  have e : cutv false (c * U) = c := by unfold cutv; rw [Nat.mul_div_cancel _ U_pos]; simp
  rw [e]
  have e2 : Ieee.signed s c 0 = if s then -(c : Int) else (c : Int) := by
    unfold Ieee.signed; simp
  rw [e2]
  have m1 : IntKind.i64.min = -9223372036854775808 := by decide
  have m2 : IntKind.i64.max = 9223372036854775807 := by decide
  rw [m1, m2, if_pos]
  cases s <;> simp at hfit ⊢ <;> omega

end Fl
end Go.Proofs.YtmebmfgmopdieaaGreatDoor
