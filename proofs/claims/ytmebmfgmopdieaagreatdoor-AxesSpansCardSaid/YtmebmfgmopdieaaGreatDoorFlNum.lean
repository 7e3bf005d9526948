/- Doubles as whole numbers of the least positive one: plain facts on Ieee.double. No program in sight. -/
import Derived.WalkKit
import Derived.Laws.FloatArith
set_option linter.unusedSimpArgs false
set_option linter.unusedVariables false
namespace Go.Proofs.YtmebmfgmopdieaaGreatDoor
namespace Fl

/-- The size of a rung, in units of the least positive double. -/
def mg (r : Nat) : Nat := if r < 4503599627370496 then r else (4503599627370496 + r % 4503599627370496) * 2 ^ (r / 4503599627370496 - 1)

theorem mg_succ (r : Nat) : mg r < mg (r + 1) := by
  unfold mg
  by_cases h : r + 1 < 4503599627370496
  · rw [if_pos (by omega), if_pos h]; omega
  · rw [if_neg h]
    by_cases h2 : r < 4503599627370496
    · rw [if_pos h2]
      have e : r + 1 = 4503599627370496 := by omega
      rw [e]; omega
    · rw [if_neg h2]
      by_cases h3 : r % 4503599627370496 + 1 < 4503599627370496
      · have e1 : (r + 1) / 4503599627370496 = r / 4503599627370496 := by omega
        have e2 : (r + 1) % 4503599627370496 = r % 4503599627370496 + 1 := by omega
        rw [e1, e2]
        exact Nat.mul_lt_mul_of_pos_right (by omega) (Nat.two_pow_pos _)
      · have e1 : (r + 1) / 4503599627370496 = r / 4503599627370496 + 1 := by omega
        have e2 : (r + 1) % 4503599627370496 = 0 := by omega
        have e3 : r / 4503599627370496 + 1 - 1 = (r / 4503599627370496 - 1) + 1 := by omega
        rw [e1, e2, e3, Nat.pow_succ]
        have hp := Nat.two_pow_pos (r / 4503599627370496 - 1)
        generalize 2 ^ (r / 4503599627370496 - 1) = p at *
        have : (4503599627370496 + r % 4503599627370496) * p ≤ 9007199254740991 * p := Nat.mul_le_mul_right _ (by omega)
        omega

theorem mg_mono {r s : Nat} (h : r < s) : mg r < mg s := by
  induction s with
  | zero => omega
  | succ n ih =>
    by_cases e : r = n
    · subst e; exact mg_succ r
    · exact Nat.lt_trans (ih (by omega)) (mg_succ n)

theorem mg_le {r s : Nat} : mg r ≤ mg s ↔ r ≤ s := by
  constructor
  · intro h
    by_cases e : r ≤ s
    · exact e
    · have := mg_mono (show s < r by omega); omega
  · intro h
    by_cases e : r = s
    · subst e; exact Nat.le_refl _
    · have := mg_mono (show r < s by omega); omega

theorem mg_lt {r s : Nat} : mg r < mg s ↔ r < s := by
  have := @mg_le s r; omega

theorem mg_inj {r s : Nat} (h : mg r = mg s) : r = s := by
  have a := (@mg_le r s).1 (by omega); have b := (@mg_le s r).1 (by omega); omega

theorem mg_zero : mg 0 = 0 := by decide

/-- What a double is worth, in units of the least positive one (an infinity as the next power of two). -/
def vl (b : Nat) : Int := if b < 9223372036854775808 then (mg b : Int) else -(mg (b - 9223372036854775808) : Int)

def nan (b : Nat) : Bool := decide (9218868437227405312 < b % 9223372036854775808)


/-- The three kinds of words. -/
theorem read_num {b : Nat} (hb : b < 18446744073709551616) (h : b % 9223372036854775808 < 9218868437227405312) :
    ∃ m p : Nat, Ieee.double.read b = .number (decide (9223372036854775808 ≤ b)) m (-1074 + (p : Int)) ∧ mg (b % 9223372036854775808) = m * 2 ^ p ∧ (p = 0 ∨ 4503599627370496 ≤ m) ∧ m < 9007199254740992 := by
  have hn : (b / 9223372036854775808 % 2 == 1) = decide (9223372036854775808 ≤ b) := by
    by_cases h0 : 9223372036854775808 ≤ b
    · have : b / 9223372036854775808 = 1 := by omega
      simp [h0, this]
    · have : b / 9223372036854775808 = 0 := by omega
      simp [h0, this]
  have e1 : Ieee.double.signWeight = 9223372036854775808 := by decide
  have e2 : Ieee.double.binade = 4503599627370496 := by decide
  have e3 : Ieee.double.infRung = 9218868437227405312 := by decide
  have e4 : Ieee.double.leastPlace = -1074 := by decide
  unfold Ieee.Format.read
  simp only [e1, e2, e3, e4, hn]
  by_cases h1 : b % 9223372036854775808 < 4503599627370496
  · rw [if_pos h1]
    exact ⟨_, 0, rfl, by unfold mg; rw [if_pos h1]; omega, Or.inl rfl, by omega⟩
  · rw [if_neg h1, if_pos h]
    exact ⟨_, _, rfl, by unfold mg; rw [if_neg h1], Or.inr (by omega), by omega⟩

theorem read_inf {b : Nat} (hb : b < 18446744073709551616) (h : b % 9223372036854775808 = 9218868437227405312) :
    Ieee.double.read b = .infinity (decide (9223372036854775808 ≤ b)) := by
  have hn : (b / 9223372036854775808 % 2 == 1) = decide (9223372036854775808 ≤ b) := by
    by_cases h0 : 9223372036854775808 ≤ b
    · have : b / 9223372036854775808 = 1 := by omega
      simp [h0, this]
    · have : b / 9223372036854775808 = 0 := by omega
      simp [h0, this]
  have e1 : Ieee.double.signWeight = 9223372036854775808 := by decide
  have e2 : Ieee.double.binade = 4503599627370496 := by decide
  have e3 : Ieee.double.infRung = 9218868437227405312 := by decide
  unfold Ieee.Format.read
  simp only [e1, e2, e3, hn]
  rw [if_neg (by omega), if_neg (by omega), if_pos h]

theorem read_nan {b : Nat} (h : 9218868437227405312 < b % 9223372036854775808) :
    ∃ s t, Ieee.double.read b = .nan s t := by
  have e1 : Ieee.double.signWeight = 9223372036854775808 := by decide
  have e2 : Ieee.double.binade = 4503599627370496 := by decide
  have e3 : Ieee.double.infRung = 9218868437227405312 := by decide
  unfold Ieee.Format.read
  simp only [e1, e2, e3]
  rw [if_neg (by omega), if_neg (by omega), if_neg (by omega)]
  exact ⟨_, _, rfl⟩

theorem signed_pow (s : Bool) (m k : Nat) : Ieee.signed s m k = (if s then -1 else 1) * ((m * 2 ^ k : Nat) : Int) := by
  unfold Ieee.signed
  rw [Nat.shiftLeft_eq]
  cases s <;> simp

theorem vl_eq {b : Nat} (hb : b < 18446744073709551616) : vl b = (if decide (9223372036854775808 ≤ b) then -1 else 1) * (mg (b % 9223372036854775808) : Int) := by
  unfold vl
  by_cases h : b < 9223372036854775808
  · have e : b % 9223372036854775808 = b := by omega
    have h' : ¬ 9223372036854775808 ≤ b := by omega
    rw [if_pos h, e]; simp [h']
  · have e : b % 9223372036854775808 = b - 9223372036854775808 := by omega
    have h' : 9223372036854775808 ≤ b := by omega
    rw [if_neg h, e]; simp [h']

theorem cmp_scale (a b : Int) (k : Nat) : compare (a * ((2 ^ k : Nat) : Int)) (b * ((2 ^ k : Nat) : Int)) = compare a b := by
  have hp : (0 : Int) < ((2 ^ k : Nat) : Int) := by have := Nat.two_pow_pos k; omega
  generalize ((2 ^ k : Nat) : Int) = p at *
  rcases Int.lt_trichotomy a b with h | h | h
  · rw [Int.compare_eq_lt.2 h, Int.compare_eq_lt.2 (Int.mul_lt_mul_of_pos_right h hp)]
  · subst h; simp
  · rw [Int.compare_eq_gt.2 h, Int.compare_eq_gt.2 (Int.mul_lt_mul_of_pos_right h hp)]

theorem order_num {s t : Bool} {m n p q : Nat} :
    Ieee.Datum.order (.number s m (-1074 + (p : Int))) (.number t n (-1074 + (q : Int))) =
      some (compare ((if s then -1 else 1) * ((m * 2 ^ p : Nat) : Int)) ((if t then -1 else 1) * ((n * 2 ^ q : Nat) : Int))) := by
  simp only [Ieee.Datum.order, signed_pow]
  have e1 : ((-1074 + (p : Int)) - min (-1074 + (p : Int)) (-1074 + (q : Int))).toNat = p - min p q := by omega
  have e2 : ((-1074 + (q : Int)) - min (-1074 + (p : Int)) (-1074 + (q : Int))).toNat = q - min p q := by omega
  rw [e1, e2]
  have f1 : m * 2 ^ p = m * 2 ^ (p - min p q) * 2 ^ (min p q) := by rw [Nat.mul_assoc, ← Nat.pow_add]; congr 2; omega
  have f2 : n * 2 ^ q = n * 2 ^ (q - min p q) * 2 ^ (min p q) := by rw [Nat.mul_assoc, ← Nat.pow_add]; congr 2; omega
  rw [f1, f2, Int.natCast_mul (m * 2 ^ (p - min p q)), Int.natCast_mul (n * 2 ^ (q - min p q)), ← Int.mul_assoc, ← Int.mul_assoc, cmp_scale]

theorem mg_le_inf {r : Nat} (h : r < 9218868437227405312) : (mg r : Int) < (mg 9218868437227405312 : Int) := by
  have := mg_mono h; omega

/-- The order of the model is that of the worths. -/
theorem order_eq {a b : Nat} (ha : a < 18446744073709551616) (hb : b < 18446744073709551616) :
    Ieee.double.order a b = if nan a || nan b then none else some (compare (vl a) (vl b)) := by
  unfold Ieee.Format.order nan
  rcases Nat.lt_trichotomy (a % 9223372036854775808) 9218868437227405312 with ha1 | ha1 | ha1
  · obtain ⟨m, p, ra, va, _⟩ := read_num ha ha1
    rcases Nat.lt_trichotomy (b % 9223372036854775808) 9218868437227405312 with hb1 | hb1 | hb1
    · obtain ⟨n, q, rb, vb, _⟩ := read_num hb hb1
      rw [ra, rb, order_num, vl_eq ha, vl_eq hb, va, vb]
      have c1 : ¬ 9218868437227405312 < a % 9223372036854775808 := by omega
      have c2 : ¬ 9218868437227405312 < b % 9223372036854775808 := by omega
      simp [c1, c2]
    · have rb := read_inf hb hb1
      rw [ra, rb, vl_eq ha, vl_eq hb, hb1]
      have c1 : ¬ 9218868437227405312 < a % 9223372036854775808 := by omega
      have c2 : ¬ 9218868437227405312 < b % 9223372036854775808 := by omega
      have hm := mg_le_inf ha1
      have h0 : (0 : Int) ≤ (mg (a % 9223372036854775808) : Int) := by omega
      generalize (mg (a % 9223372036854775808) : Int) = x at *
      generalize (mg 9218868437227405312 : Int) = y at *
      simp only [Ieee.Datum.order, c1, c2, decide_false, Bool.or_self]
      by_cases s1 : 9223372036854775808 ≤ a <;> by_cases s2 : 9223372036854775808 ≤ b <;> simp [s1, s2]
      · symm; rw [Int.compare_eq_gt]; omega
      · symm; rw [Int.compare_eq_lt]; omega
      · symm; rw [Int.compare_eq_gt]; omega
      · symm; rw [Int.compare_eq_lt]; omega
    · obtain ⟨s, t, rb⟩ := read_nan hb1
      rw [ra, rb]; simp [Ieee.Datum.order, hb1]
  · have ra := read_inf ha ha1
    rcases Nat.lt_trichotomy (b % 9223372036854775808) 9218868437227405312 with hb1 | hb1 | hb1
    · obtain ⟨n, q, rb, vb, _⟩ := read_num hb hb1
      rw [ra, rb, vl_eq ha, vl_eq hb, ha1]
      have c1 : ¬ 9218868437227405312 < a % 9223372036854775808 := by omega
      have c2 : ¬ 9218868437227405312 < b % 9223372036854775808 := by omega
      have hm := mg_le_inf hb1
      have h0 : (0 : Int) ≤ (mg (b % 9223372036854775808) : Int) := by omega
      generalize (mg (b % 9223372036854775808) : Int) = x at *
      generalize (mg 9218868437227405312 : Int) = y at *
      simp only [Ieee.Datum.order, c1, c2, decide_false, Bool.or_self]
      by_cases s1 : 9223372036854775808 ≤ a <;> by_cases s2 : 9223372036854775808 ≤ b <;> simp [s1, s2]
      · symm; rw [Int.compare_eq_lt]; omega
      · symm; rw [Int.compare_eq_lt]; omega
      · symm; rw [Int.compare_eq_gt]; omega
      · symm; rw [Int.compare_eq_gt]; omega
    · have rb := read_inf hb hb1
      rw [ra, rb, vl_eq ha, vl_eq hb, ha1, hb1]
      have c1 : ¬ 9218868437227405312 < a % 9223372036854775808 := by omega
      have c2 : ¬ 9218868437227405312 < b % 9223372036854775808 := by omega
      have hm := mg_le_inf (r := 0) (by omega)
      rw [mg_zero] at hm
      generalize (mg 9218868437227405312 : Int) = y at *
      simp only [Ieee.Datum.order, decide_false, Bool.or_self, Nat.lt_irrefl]
      by_cases s1 : 9223372036854775808 ≤ a <;> by_cases s2 : 9223372036854775808 ≤ b <;> simp [s1, s2]
      · have e : compare (-y) y = Ordering.lt := by rw [Int.compare_eq_lt]; omega
        rw [e]; rfl
      · have e : compare y (-y) = Ordering.gt := by rw [Int.compare_eq_gt]; omega
        rw [e]; rfl
    · obtain ⟨s, t, rb⟩ := read_nan hb1
      rw [ra, rb]; simp [Ieee.Datum.order, hb1]
  · obtain ⟨s, t, ra⟩ := read_nan ha1
    rw [ra]; simp [Ieee.Datum.order, ha1]

end Fl
end Go.Proofs.YtmebmfgmopdieaaGreatDoor
