/- Exact sums and products of doubles, as plain facts on Ieee.double. No program in sight. -/
import Derived.Test.YtmebmfgmopdieaaGreatDoorFlInt
set_option linter.unusedSimpArgs false
set_option linter.unusedVariables false
namespace Go.Proofs.YtmebmfgmopdieaaGreatDoor
namespace Fl

theorem two_mg (r : Nat) : ∃ s, mg s = 2 * mg r := by
  by_cases c : r < 4503599627370496
  · refine ⟨2 * r, ?_⟩
    have b : mg r = r := by unfold mg; rw [if_pos c]
    rw [b]
    have a := @mgk 0 (2 * r) (by omega) (Or.inl rfl)
    rw [Nat.zero_mul, Nat.zero_add, Nat.pow_zero, Nat.mul_one] at a
    exact a
  · refine ⟨r + 4503599627370496, ?_⟩
    unfold mg
    rw [if_neg (by omega), if_neg c]
    have e1 : (r + 4503599627370496) % 4503599627370496 = r % 4503599627370496 := by omega
    have e2 : (r + 4503599627370496) / 4503599627370496 - 1 = (r / 4503599627370496 - 1) + 1 := by omega
    rw [e1, e2, Nat.pow_succ]
    generalize 2 ^ (r / 4503599627370496 - 1) = z
    generalize 4503599627370496 + r % 4503599627370496 = y
    rw [← Nat.mul_assoc, Nat.mul_comm]

/-- A whole number of at most 53 bits times a power of two is a double, while it is no infinity. -/
theorem rep_shift {c : Nat} (h : c ≤ 9007199254740992) (j : Nat) : ∃ s, mg s = c * 2 ^ j * U := by
  induction j with
  | zero =>
    by_cases c1 : c < 9007199254740992
    · exact ⟨_, by rw [mg_dn_int c1, Nat.pow_zero, Nat.mul_one]⟩
    · exact ⟨E * 4503599627370496 + c, by rw [mgk h (Or.inr (by omega)), U_pow, Nat.pow_zero, Nat.mul_one]⟩
  | succ j ih =>
    obtain ⟨s, hs⟩ := ih
    obtain ⟨t, ht⟩ := two_mg s
    refine ⟨t, ?_⟩
    rw [ht, hs, Nat.pow_succ]; generalize 2 ^ j = p; generalize U = u; ac_rfl

theorem rep_dn {c : Nat} (h : c ≤ 9007199254740992) (j : Nat) : mg (dn (c * 2 ^ j * U)) = c * 2 ^ j * U := by
  obtain ⟨s, hs⟩ := rep_shift h j
  rw [← hs, dn_mg]

/-- 'x + y' of positive ones, where the sum is a double. -/
theorem add_pos {r s t : Nat} (h : mg t = mg r + mg s) (ht : t < 9218868437227405312) : floatBits .add .f64 r s = some t := by
  have hr : r ≤ t := (@mg_le r t).1 (by omega)
  have hs : s ≤ t := (@mg_le s t).1 (by omega)
  have hmr : r % 9223372036854775808 = r := by omega
  have hms : s % 9223372036854775808 = s := by omega
  obtain ⟨m, p, hread, hv, _⟩ := read_num (b := r) (by omega) (by omega)
  obtain ⟨n, q, hread2, hv2, _⟩ := read_num (b := s) (by omega) (by omega)
  rw [hmr] at hv
  rw [hms] at hv2
  have hneg : decide (9223372036854775808 ≤ r) = false := by simp; omega
  have hneg2 : decide (9223372036854775808 ≤ s) = false := by simp; omega
  rw [hneg] at hread
  rw [hneg2] at hread2
  show Ieee.double.add r s = _
  unfold Ieee.Format.add
  rw [hread, hread2]
  simp only [Ieee.Datum.sum, Option.map_some, signed_pow]
  obtain ⟨k, hk⟩ : ∃ k : Nat, min (-1074 + (p : Int)) (-1074 + (q : Int)) = -1074 + (k : Int) ∧ k ≤ p ∧ k ≤ q := by
    by_cases c : p ≤ q
    · exact ⟨p, by omega, by omega, c⟩
    · exact ⟨q, by omega, by omega, by omega⟩
  obtain ⟨hk, kp, kq⟩ := hk
  rw [hk]
  have e1 : (-1074 + (p : Int) - (-1074 + (k : Int))).toNat = p - k := by omega
  have e2 : (-1074 + (q : Int) - (-1074 + (k : Int))).toNat = q - k := by omega
  rw [e1, e2]
  have e3 : ((if (false : Bool) = true then (-1 : Int) else 1) * ((m * 2 ^ (p - k) : Nat) : Int) + (if (false : Bool) = true then (-1 : Int) else 1) * ((n * 2 ^ (q - k) : Nat) : Int)) = ((m * 2 ^ (p - k) + n * 2 ^ (q - k) : Nat) : Int) := by
    simp
  rw [e3]
  have e5 : (m * 2 ^ (p - k) + n * 2 ^ (q - k)) * 2 ^ k = mg t := by
    rw [h, hv, hv2, Nat.add_mul, Nat.mul_assoc, Nat.mul_assoc, ← Nat.pow_add, ← Nat.pow_add, Nat.sub_add_cancel kp, Nat.sub_add_cancel kq]
  generalize m * 2 ^ (p - k) + n * 2 ^ (q - k) = M at *
  have e4 : (if ((M : Nat) : Int) = 0 then false && false else decide (((M : Nat) : Int) < 0)) = false := by
    split
    · rfl
    · simp
  rw [e4, Int.natAbs_natCast]
  show some (Ieee.double.nearest false M (-1074 + (k : Int))) = _
  rw [nearest_eq, word_wd, e5, rr_mg, Nat.min_eq_left (by omega)]
  rfl

/-- The word of a power of two. -/
def pw (i : Nat) : Nat := (1023 + i) * 4503599627370496
theorem pw_mul : ∀ i < 63, floatBits .mul .f64 (pw i) 4611686018427387904 = some (pw (i + 1)) := by decide +kernel
theorem pw_mg : ∀ i < 64, mg (pw i) = 2 ^ i * U := by decide +kernel
theorem pw_zero : pw 0 = 4607182418800017408 := by decide
/-- A power of two, squared again and again. -/
def sq : Nat → Nat
  | 0 => pw 63
  | j + 1 => (floatBits .mul .f64 (sq j) (sq j)).getD 0
theorem sq_mul : ∀ j < 12, floatBits .mul .f64 (sq j) (sq j) = some (sq (j + 1)) := by decide +kernel
theorem sq_end : sq 12 = 9218868437227405312 := by decide +kernel
end Fl
end Go.Proofs.YtmebmfgmopdieaaGreatDoor
