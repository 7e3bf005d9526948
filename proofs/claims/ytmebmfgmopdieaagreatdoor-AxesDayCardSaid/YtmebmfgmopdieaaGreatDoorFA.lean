/- Doubles as whole numbers of the least positive one: plain facts on Ieee.double. No program in sight. -/
import Derived.WalkKit
import Derived.Laws.FloatArith
/-! Doubles as whole numbers of the least positive one: plain facts on Ieee.double. No program in sight. -/
set_option linter.unusedSimpArgs false
set_option linter.unusedVariables false
namespace Go.Proofs.YtmebmfgmopdieaaGreatDoor
namespace Fl

/-- The size of a rung, in units of the least positive double. -/
def mg (r : Nat) : Nat := if r < 4503599627370496 then r else (4503599627370496 + r % 4503599627370496) * 2 ^ (r / 4503599627370496 - 1)

theorem mg_succ (r : Nat) : mg r < mg (r + 1) := by
  unfold mg
  by_cases h : r + 1 < 4503599627370496
  · rw [if_pos (by omega), if_pos h]; omega
  · rw [if_neg h]
    by_cases h2 : r < 4503599627370496
    · rw [if_pos h2]
      have e : r + 1 = 4503599627370496 := by omega
      rw [e]; omega
    · rw [if_neg h2]
      by_cases h3 : r % 4503599627370496 + 1 < 4503599627370496
      · have e1 : (r + 1) / 4503599627370496 = r / 4503599627370496 := by omega
        have e2 : (r + 1) % 4503599627370496 = r % 4503599627370496 + 1 := by omega
        rw [e1, e2]
        exact Nat.mul_lt_mul_of_pos_right (by omega) (Nat.two_pow_pos _)
      · have e1 : (r + 1) / 4503599627370496 = r / 4503599627370496 + 1 := by omega
        have e2 : (r + 1) % 4503599627370496 = 0 := by omega
        have e3 : r / 4503599627370496 + 1 - 1 = (r / 4503599627370496 - 1) + 1 := by omega
        rw [e1, e2, e3, Nat.pow_succ]
        have hp := Nat.two_pow_pos (r / 4503599627370496 - 1)
        generalize 2 ^ (r / 4503599627370496 - 1) = p at *
        have : (4503599627370496 + r % 4503599627370496) * p ≤ 9007199254740991 * p := Nat.mul_le_mul_right _ (by omega)
        omega

theorem mg_mono {r s : Nat} (h : r < s) : mg r < mg s := by
  induction s with
  | zero => omega
  | succ n ih =>
    by_cases e : r = n
    · subst e; exact mg_succ r
    · exact Nat.lt_trans (ih (by omega)) (mg_succ n)

theorem mg_le {r s : Nat} : mg r ≤ mg s ↔ r ≤ s := by
  constructor
  · intro h
    by_cases e : r ≤ s
    · exact e
    · have := mg_mono (show s < r by omega); omega
  · intro h
    by_cases e : r = s
    · subst e; exact Nat.le_refl _
    · have := mg_mono (show r < s by omega); omega

theorem mg_lt {r s : Nat} : mg r < mg s ↔ r < s := by
  have := @mg_le s r; omega

theorem mg_inj {r s : Nat} (h : mg r = mg s) : r = s := by
  have a := (@mg_le r s).1 (by omega); have b := (@mg_le s r).1 (by omega); omega

theorem mg_zero : mg 0 = 0 := by decide

/-- What a double is worth, in units of the least positive one (an infinity as the next power of two). -/
def vl (b : Nat) : Int := if b < 9223372036854775808 then (mg b : Int) else -(mg (b - 9223372036854775808) : Int)

def nan (b : Nat) : Bool := decide (9218868437227405312 < b % 9223372036854775808)


/-- The three kinds of words. -/
theorem read_num {b : Nat} (hb : b < 18446744073709551616) (h : b % 9223372036854775808 < 9218868437227405312) :
    ∃ m p : Nat, Ieee.double.read b = .number (decide (9223372036854775808 ≤ b)) m (-1074 + (p : Int)) ∧ mg (b % 9223372036854775808) = m * 2 ^ p ∧ (p = 0 ∨ 4503599627370496 ≤ m) ∧ m < 9007199254740992 := by
  have hn : (b / 9223372036854775808 % 2 == 1) = decide (9223372036854775808 ≤ b) := by
    by_cases h0 : 9223372036854775808 ≤ b
    · have : b / 9223372036854775808 = 1 := by omega
      simp [h0, this]
    · have : b / 9223372036854775808 = 0 := by omega
      simp [h0, this]
  have e1 : Ieee.double.signWeight = 9223372036854775808 := by decide
  have e2 : Ieee.double.binade = 4503599627370496 := by decide
  have e3 : Ieee.double.infRung = 9218868437227405312 := by decide
  have e4 : Ieee.double.leastPlace = -1074 := by decide
  unfold Ieee.Format.read
  simp only [e1, e2, e3, e4, hn]
  by_cases h1 : b % 9223372036854775808 < 4503599627370496
  · rw [if_pos h1]
    exact ⟨_, 0, rfl, by unfold mg; rw [if_pos h1]; omega, Or.inl rfl, by omega⟩
  · rw [if_neg h1, if_pos h]
    exact ⟨_, _, rfl, by unfold mg; rw [if_neg h1], Or.inr (by omega), by omega⟩

theorem read_inf {b : Nat} (hb : b < 18446744073709551616) (h : b % 9223372036854775808 = 9218868437227405312) :
    Ieee.double.read b = .infinity (decide (9223372036854775808 ≤ b)) := by
  have hn : (b / 9223372036854775808 % 2 == 1) = decide (9223372036854775808 ≤ b) := by
    by_cases h0 : 9223372036854775808 ≤ b
    · have : b / 9223372036854775808 = 1 := by omega
      simp [h0, this]
    · have : b / 9223372036854775808 = 0 := by omega
      simp [h0, this]
  have e1 : Ieee.double.signWeight = 9223372036854775808 := by decide
  have e2 : Ieee.double.binade = 4503599627370496 := by decide
  have e3 : Ieee.double.infRung = 9218868437227405312 := by decide
  unfold Ieee.Format.read
  simp only [e1, e2, e3, hn]
  rw [if_neg (by omega), if_neg (by omega), if_pos h]

theorem read_nan {b : Nat} (h : 9218868437227405312 < b % 9223372036854775808) :
    ∃ s t, Ieee.double.read b = .nan s t := by
  have e1 : Ieee.double.signWeight = 9223372036854775808 := by decide
  have e2 : Ieee.double.binade = 4503599627370496 := by decide
  have e3 : Ieee.double.infRung = 9218868437227405312 := by decide
  unfold Ieee.Format.read
  simp only [e1, e2, e3]
  rw [if_neg (by omega), if_neg (by omega), if_neg (by omega)]
  exact ⟨_, _, rfl⟩

theorem signed_pow (s : Bool) (m k : Nat) : Ieee.signed s m k = (if s then -1 else 1) * ((m * 2 ^ k : Nat) : Int) := by
  unfold Ieee.signed
  rw [Nat.shiftLeft_eq]
  cases s <;> simp

theorem vl_eq {b : Nat} (hb : b < 18446744073709551616) : vl b = (if decide (9223372036854775808 ≤ b) then -1 else 1) * (mg (b % 9223372036854775808) : Int) := by
  unfold vl
  by_cases h : b < 9223372036854775808
  · have e : b % 9223372036854775808 = b := by omega
    have h' : ¬ 9223372036854775808 ≤ b := by omega
    rw [if_pos h, e]; simp [h']
  · have e : b % 9223372036854775808 = b - 9223372036854775808 := by omega
    have h' : 9223372036854775808 ≤ b := by omega
    rw [if_neg h, e]; simp [h']

theorem cmp_scale (a b : Int) (k : Nat) : compare (a * ((2 ^ k : Nat) : Int)) (b * ((2 ^ k : Nat) : Int)) = compare a b := by
  have hp : (0 : Int) < ((2 ^ k : Nat) : Int) := by have := Nat.two_pow_pos k; omega
  generalize ((2 ^ k : Nat) : Int) = p at *
  rcases Int.lt_trichotomy a b with h | h | h
  · rw [Int.compare_eq_lt.2 h, Int.compare_eq_lt.2 (Int.mul_lt_mul_of_pos_right h hp)]
  · subst h; simp
  · rw [Int.compare_eq_gt.2 h, Int.compare_eq_gt.2 (Int.mul_lt_mul_of_pos_right h hp)]

theorem order_num {s t : Bool} {m n p q : Nat} :
    Ieee.Datum.order (.number s m (-1074 + (p : Int))) (.number t n (-1074 + (q : Int))) =
      some (compare ((if s then -1 else 1) * ((m * 2 ^ p : Nat) : Int)) ((if t then -1 else 1) * ((n * 2 ^ q : Nat) : Int))) := by
  simp only [Ieee.Datum.order, signed_pow]
  have e1 : ((-1074 + (p : Int)) - min (-1074 + (p : Int)) (-1074 + (q : Int))).toNat = p - min p q := by omega
  have e2 : ((-1074 + (q : Int)) - min (-1074 + (p : Int)) (-1074 + (q : Int))).toNat = q - min p q := by omega
  rw [e1, e2]
  have f1 : m * 2 ^ p = m * 2 ^ (p - min p q) * 2 ^ (min p q) := by rw [Nat.mul_assoc, ← Nat.pow_add]; congr 2; omega
  have f2 : n * 2 ^ q = n * 2 ^ (q - min p q) * 2 ^ (min p q) := by rw [Nat.mul_assoc, ← Nat.pow_add]; congr 2; omega
  rw [f1, f2, Int.natCast_mul (m * 2 ^ (p - min p q)), Int.natCast_mul (n * 2 ^ (q - min p q)), ← Int.mul_assoc, ← Int.mul_assoc, cmp_scale]

theorem mg_le_inf {r : Nat} (h : r < 9218868437227405312) : (mg r : Int) < (mg 9218868437227405312 : Int) := by
  have := mg_mono h; omega

/-- The order of the model is that of the worths. -/
theorem order_eq {a b : Nat} (ha : a < 18446744073709551616) (hb : b < 18446744073709551616) :
    Ieee.double.order a b = if nan a || nan b then none else some (compare (vl a) (vl b)) := by
  unfold Ieee.Format.order nan
  rcases Nat.lt_trichotomy (a % 9223372036854775808) 9218868437227405312 with ha1 | ha1 | ha1
  · obtain ⟨m, p, ra, va, _⟩ := read_num ha ha1
    rcases Nat.lt_trichotomy (b % 9223372036854775808) 9218868437227405312 with hb1 | hb1 | hb1
    · obtain ⟨n, q, rb, vb, _⟩ := read_num hb hb1
      rw [ra, rb, order_num, vl_eq ha, vl_eq hb, va, vb]
      have c1 : ¬ 9218868437227405312 < a % 9223372036854775808 := by omega
      have c2 : ¬ 9218868437227405312 < b % 9223372036854775808 := by omega
      simp [c1, c2]
    · have rb := read_inf hb hb1
      rw [ra, rb, vl_eq ha, vl_eq hb, hb1]
      have c1 : ¬ 9218868437227405312 < a % 9223372036854775808 := by omega
      have c2 : ¬ 9218868437227405312 < b % 9223372036854775808 := by omega
      have hm := mg_le_inf ha1
      have h0 : (0 : Int) ≤ (mg (a % 9223372036854775808) : Int) := by omega
      generalize (mg (a % 9223372036854775808) : Int) = x at *
      generalize (mg 9218868437227405312 : Int) = y at *
      simp only [Ieee.Datum.order, c1, c2, decide_false, Bool.or_self]
      by_cases s1 : 9223372036854775808 ≤ a <;> by_cases s2 : 9223372036854775808 ≤ b <;> simp [s1, s2]
      · symm; rw [Int.compare_eq_gt]; omega
      · symm; rw [Int.compare_eq_lt]; omega
      · symm; rw [Int.compare_eq_gt]; omega
      · symm; rw [Int.compare_eq_lt]; omega
    · obtain ⟨s, t, rb⟩ := read_nan hb1
      rw [ra, rb]; simp [Ieee.Datum.order, hb1]
  · have ra := read_inf ha ha1
    rcases Nat.lt_trichotomy (b % 9223372036854775808) 9218868437227405312 with hb1 | hb1 | hb1
    · obtain ⟨n, q, rb, vb, _⟩ := read_num hb hb1
      rw [ra, rb, vl_eq ha, vl_eq hb, ha1]
      have c1 : ¬ 9218868437227405312 < a % 9223372036854775808 := by omega
      have c2 : ¬ 9218868437227405312 < b % 9223372036854775808 := by omega
      have hm := mg_le_inf hb1
      have h0 : (0 : Int) ≤ (mg (b % 9223372036854775808) : Int) := by omega
      generalize (mg (b % 9223372036854775808) : Int) = x at *
      generalize (mg 9218868437227405312 : Int) = y at *
      simp only [Ieee.Datum.order, c1, c2, decide_false, Bool.or_self]
      by_cases s1 : 9223372036854775808 ≤ a <;> by_cases s2 : 9223372036854775808 ≤ b <;> simp [s1, s2]
      · symm; rw [Int.compare_eq_lt]; omega
      · symm; rw [Int.compare_eq_lt]; omega
      · symm; rw [Int.compare_eq_gt]; omega
      · symm; rw [Int.compare_eq_gt]; omega
    · have rb := read_inf hb hb1
      rw [ra, rb, vl_eq ha, vl_eq hb, ha1, hb1]
      have c1 : ¬ 9218868437227405312 < a % 9223372036854775808 := by omega
      have c2 : ¬ 9218868437227405312 < b % 9223372036854775808 := by omega
      have hm := mg_le_inf (r := 0) (by omega)
      rw [mg_zero] at hm
      generalize (mg 9218868437227405312 : Int) = y at *
      simp only [Ieee.Datum.order, decide_false, Bool.or_self, Nat.lt_irrefl]
      by_cases s1 : 9223372036854775808 ≤ a <;> by_cases s2 : 9223372036854775808 ≤ b <;> simp [s1, s2]
      · have e : compare (-y) y = Ordering.lt := by rw [Int.compare_eq_lt]; omega
        rw [e]; rfl
      · have e : compare y (-y) = Ordering.gt := by rw [Int.compare_eq_gt]; omega
        rw [e]; rfl
    · obtain ⟨s, t, rb⟩ := read_nan hb1
      rw [ra, rb]; simp [Ieee.Datum.order, hb1]
  · obtain ⟨s, t, ra⟩ := read_nan ha1
    rw [ra]; simp [Ieee.Datum.order, ha1]

end Fl
end Go.Proofs.YtmebmfgmopdieaaGreatDoor

/-! Rounding to doubles, whole numbers as doubles, floors: plain facts on Ieee.double. No program in sight. -/
set_option linter.unusedSimpArgs false
set_option linter.unusedVariables false
namespace Go.Proofs.YtmebmfgmopdieaaGreatDoor
namespace Fl

/-- The greatest rung that is worth at most v. -/
def dn (v : Nat) : Nat := (v.log2 - 52) * 4503599627370496 + v / 2 ^ (v.log2 - 52)

def more (v k : Nat) : Bool := decide (2 ^ k < 2 * (v % 2 ^ k)) || (2 ^ k == 2 * (v % 2 ^ k) && v / 2 ^ k % 2 == 1)

/-- The nearest rung, between two the even one. -/
def rr (v : Nat) : Nat := if v = 0 then 0 else dn v + (more v (v.log2 - 52)).toNat

theorem log2_mul (m p : Nat) (h : m ≠ 0) : (m * 2 ^ p).log2 = m.log2 + p := by
  have hp := Nat.two_pow_pos p
  have h1 : m * 2 ^ p ≠ 0 := by
    intro e; rcases Nat.mul_eq_zero.1 e with e | e <;> omega
  have a : (m * 2 ^ p).log2 < m.log2 + p + 1 := by
    rw [Nat.log2_lt h1, show m.log2 + p + 1 = (m.log2 + 1) + p from by omega, Nat.pow_add]
    exact Nat.mul_lt_mul_of_pos_right Nat.lt_log2_self hp
  have b : ¬ (m * 2 ^ p).log2 < m.log2 + p := by
    rw [Nat.log2_lt h1, Nat.pow_add]
    have := Nat.mul_le_mul_right (2 ^ p) (Nat.log2_self_le h)
    omega
  omega

theorem mgk {k q : Nat} (h : q ≤ 9007199254740992) (h2 : k = 0 ∨ 4503599627370496 ≤ q) : mg (k * 4503599627370496 + q) = q * 2 ^ k := by
  unfold mg
  by_cases h3 : q < 4503599627370496
  · have : k = 0 := by omega
    subst this
    rw [if_pos (by omega)]; omega
  · rw [if_neg (by omega)]
    by_cases h4 : q = 9007199254740992
    · subst h4
      have e1 : (k * 4503599627370496 + 9007199254740992) % 4503599627370496 = 0 := by omega
      have e2 : (k * 4503599627370496 + 9007199254740992) / 4503599627370496 - 1 = k + 1 := by omega
      rw [e1, e2, Nat.pow_succ]; omega
    · have e1 : (k * 4503599627370496 + q) % 4503599627370496 = q - 4503599627370496 := by omega
      have e2 : (k * 4503599627370496 + q) / 4503599627370496 - 1 = k := by omega
      rw [e1, e2, show 4503599627370496 + (q - 4503599627370496) = q from by omega]

/-- The quotient that is kept lies within one binade. -/
theorem keep_bounds {v : Nat} (h : v ≠ 0) : v / 2 ^ (v.log2 - 52) < 9007199254740992 ∧ (v.log2 - 52 = 0 ∨ 4503599627370496 ≤ v / 2 ^ (v.log2 - 52)) := by
  have hp := Nat.two_pow_pos (v.log2 - 52)
  have a := Nat.log2_self_le h
  have b : v < 2 ^ (v.log2 + 1) := Nat.lt_log2_self
  by_cases c : v.log2 ≤ 52
  · have e : v.log2 - 52 = 0 := by omega
    refine ⟨?_, Or.inl e⟩
    rw [e]
    have : v < 2 ^ 53 := Nat.lt_of_lt_of_le b (Nat.pow_le_pow_right (by omega) (by omega))
    simp; omega
  · refine ⟨?_, Or.inr ?_⟩
    · rw [Nat.div_lt_iff_lt_mul hp]
      have e : v.log2 + 1 = 53 + (v.log2 - 52) := by omega
      rw [e, Nat.pow_add] at b
      exact b
    · rw [Nat.le_div_iff_mul_le hp]
      have e : v.log2 = 52 + (v.log2 - 52) := by omega
      rw [e, Nat.pow_add] at a
      exact a

theorem dn_spec {v : Nat} : mg (dn v) = v / 2 ^ (v.log2 - 52) * 2 ^ (v.log2 - 52) ∧ mg (dn v + 1) = (v / 2 ^ (v.log2 - 52) + 1) * 2 ^ (v.log2 - 52) := by
  by_cases h : v = 0
  · subst h; decide
  · obtain ⟨a, b⟩ := keep_bounds h
    unfold dn
    refine ⟨mgk (by omega) b, ?_⟩
    rw [Nat.add_assoc]
    exact mgk (by omega) (by omega)

theorem dn_le (v : Nat) : mg (dn v) ≤ v := by
  rw [dn_spec.1]; exact Nat.div_mul_le_self _ _

theorem lt_dn (v : Nat) : v < mg (dn v + 1) := by
  rw [dn_spec.2]; exact Nat.lt_mul_of_div_lt (Nat.lt_succ_self _) (Nat.two_pow_pos _)

theorem dn_unique {v r : Nat} (h1 : mg r ≤ v) (h2 : v < mg (r + 1)) : r = dn v := by
  have a := dn_le v; have b := lt_dn v
  have c := (@mg_lt r (dn v + 1)).1 (by omega)
  have d := (@mg_lt (dn v) (r + 1)).1 (by omega)
  omega

theorem dn_mg (r : Nat) : dn (mg r) = r := (dn_unique (Nat.le_refl _) (mg_succ r)).symm

theorem dn_lt {v r : Nat} (h : v < mg r) : dn v < r := mg_lt.1 (Nat.lt_of_le_of_lt (dn_le v) h)

theorem dn_mono {v u : Nat} (h : v ≤ u) : dn v ≤ dn u := by
  have a := dn_le v; have b := lt_dn u
  have := (@mg_lt (dn v) (dn u + 1)).1 (by omega)
  omega

theorem rr_or (v : Nat) : rr v = dn v ∨ (rr v = dn v + 1 ∧ mg (dn v) ≠ v) := by
  unfold rr
  by_cases h : v = 0
  · subst h; left; decide
  · rw [if_neg h]
    by_cases hm : more v (v.log2 - 52) = true
    · right
      refine ⟨by rw [hm]; rfl, ?_⟩
      intro e
      rw [dn_spec.1] at e
      have hz : v % 2 ^ (v.log2 - 52) = 0 := by have := Nat.div_add_mod v (2 ^ (v.log2 - 52)); rw [Nat.mul_comm] at this; omega
      have hp := Nat.two_pow_pos (v.log2 - 52)
      unfold more at hm
      rw [hz] at hm
      simp at hm
    · left
      rw [Bool.not_eq_true] at hm
      rw [hm, Bool.toNat_false, Nat.add_zero]

/-- What a double can be is hit exactly. -/
theorem rr_mg (r : Nat) : rr (mg r) = r := by
  rcases rr_or (mg r) with h | ⟨_, h⟩
  · rw [h, dn_mg]
  · rw [dn_mg] at h; exact absurd rfl h

theorem rr_le {v : Nat} (h : v < mg 9218868437227405312) : rr v ≤ 9218868437227405312 := by
  have := dn_lt h
  rcases rr_or v with e | ⟨e, _⟩ <;> omega

theorem toNat_more (v k : Nat) : (more v k).toNat = if more v k = true then 1 else 0 := by cases more v k <;> rfl

theorem cut_zero (neg : Bool) (n : Nat) : Ieee.Toward.even.cut neg n 0 = n := by
  unfold Ieee.Toward.cut
  simp [Nat.mod_one]

/-- 'nearest' is the nearest rung. -/
theorem nearest_eq (neg : Bool) (m p : Nat) : Ieee.double.nearest neg m (-1074 + (p : Int)) = Ieee.double.word neg (min (rr (m * 2 ^ p)) 9218868437227405312) := by
  have e2 : Ieee.double.binade = 4503599627370496 := by decide
  have e3 : Ieee.double.infRung = 9218868437227405312 := by decide
  have e4 : Ieee.double.leastPlace = -1074 := by decide
  have e5 : (Ieee.double.fractionBits : Int) = 52 := by decide
  unfold Ieee.Format.nearest
  by_cases h : m = 0
  · subst h
    rw [if_pos rfl, Nat.zero_mul]
    have : rr 0 = 0 := by decide
    rw [this]; simp
  · rw [if_neg h]
    simp only [e2, e3, e4, e5]
    have hp := Nat.two_pow_pos p
    have h1 : m * 2 ^ p ≠ 0 := by
      intro e; rcases Nat.mul_eq_zero.1 e with e | e <;> omega
    have hl := log2_mul m p h
    unfold rr dn
    rw [if_neg h1, hl]
    have ek : (max (-1074 + (p : Int) + (m.log2 : Int) - 52) (-1074) - -1074).toNat = m.log2 + p - 52 := by omega
    rw [ek]
    have key : ∀ a b : Nat, a = b → Ieee.double.word neg (min ((m.log2 + p - 52) * 4503599627370496 + a) 9218868437227405312) = Ieee.double.word neg (min ((m.log2 + p - 52) * 4503599627370496 + b) 9218868437227405312) := by
      intro a b e; rw [e]
    rw [Nat.add_assoc]
    refine key _ _ ?_
    clear key
    by_cases hk : m.log2 + p - 52 ≤ p
    · have d1 : (-1074 + (p : Int) - max (-1074 + (p : Int) + (m.log2 : Int) - 52) (-1074)).toNat = p - (m.log2 + p - 52) := by omega
      have d2 : (max (-1074 + (p : Int) + (m.log2 : Int) - 52) (-1074) - (-1074 + (p : Int))).toNat = 0 := by omega
      rw [d1, d2, cut_zero, Nat.shiftLeft_eq]
      generalize m.log2 + p - 52 = k at *
      have f : m * 2 ^ p = m * 2 ^ (p - k) * 2 ^ k := by rw [Nat.mul_assoc, ← Nat.pow_add]; congr 2; omega
      have hk0 := Nat.two_pow_pos k
      unfold more
      rw [f, Nat.mul_div_cancel _ hk0, Nat.mul_mod_left]
      simp
    · have d1 : (-1074 + (p : Int) - max (-1074 + (p : Int) + (m.log2 : Int) - 52) (-1074)).toNat = 0 := by omega
      have d2 : (max (-1074 + (p : Int) + (m.log2 : Int) - 52) (-1074) - (-1074 + (p : Int))).toNat = m.log2 + p - 52 - p := by omega
      rw [d1, d2]
      have hd : m.log2 + p - 52 - p ≤ m.log2 + 2 := by omega
      generalize hq : m.log2 + p - 52 = k at *
      unfold Ieee.Toward.cut
      simp only [Nat.shiftLeft_eq, Nat.pow_zero, Nat.mul_one, Nat.one_mul]
      rw [Nat.min_eq_left hd]
      have f : 2 ^ k = 2 ^ (k - p) * 2 ^ p := by rw [← Nat.pow_add]; congr 1; omega
      unfold more
      have g1 : m * 2 ^ p / 2 ^ k = m / 2 ^ (k - p) := by rw [f, Nat.mul_div_mul_right _ _ hp]
      have g2 : m * 2 ^ p % 2 ^ k = m % 2 ^ (k - p) * 2 ^ p := by rw [f, Nat.mul_mod_mul_right]
      rw [g1, g2, f]
      generalize m % 2 ^ (k - p) = y at *
      generalize 2 ^ (k - p) = x at *
      generalize 2 ^ p = z at *
      have c1 : decide (x * z < 2 * (y * z)) = decide (x < 2 * y) := by
        rw [← Nat.mul_assoc]; rw [decide_eq_decide]
        exact Nat.mul_lt_mul_right hp
      have c2 : (x * z == 2 * (y * z)) = (x == 2 * y) := by
        rw [← Nat.mul_assoc, Bool.eq_iff_iff, beq_iff_eq, beq_iff_eq]
        exact Nat.mul_left_inj (by omega)
      rw [c1, c2]

end Fl
end Go.Proofs.YtmebmfgmopdieaaGreatDoor

/-! Whole numbers and doubles: conversion, doubling, floor and ceiling, as plain facts on Ieee.double. No program in sight. -/
set_option linter.unusedSimpArgs false
set_option linter.unusedVariables false
namespace Go.Proofs.YtmebmfgmopdieaaGreatDoor
namespace Fl

/-- One, in units of the least positive double. -/
def E : Nat := 1074
theorem E_eq : E = 1074 := rfl
def U : Nat := 2 ^ E
theorem U_pos : 0 < U := Nat.two_pow_pos _
theorem U_pow : U = 2 ^ E := rfl
theorem big_lt : 36893488147419103232 * U < mg 9218868437227405312 := by decide +kernel

def wd (neg : Bool) (r : Nat) : Nat := if neg then 9223372036854775808 + r else r

theorem word_wd (neg : Bool) (r : Nat) : Ieee.double.word neg r = wd neg r := by
  have e : Ieee.double.signWeight = 9223372036854775808 := by decide
  unfold Ieee.Format.word wd; rw [e]

theorem wd_lt {neg : Bool} {r : Nat} (h : r ≤ 9218868437227405312) : wd neg r < 18446744073709551616 := by
  unfold wd; split <;> omega

theorem wd_mod {neg : Bool} {r : Nat} (h : r ≤ 9218868437227405312) : wd neg r % 9223372036854775808 = r := by
  unfold wd; split <;> omega

theorem wd_sign {neg : Bool} {r : Nat} (h : r ≤ 9218868437227405312) : decide (9223372036854775808 ≤ wd neg r) = neg := by
  unfold wd
  cases neg
  · simp; omega
  · simp

theorem nan_wd {neg : Bool} {r : Nat} (h : r ≤ 9218868437227405312) : nan (wd neg r) = false := by
  unfold nan; rw [wd_mod h]; simp; omega

theorem vl_wd {neg : Bool} {r : Nat} (h : r ≤ 9218868437227405312) : vl (wd neg r) = (if neg then -1 else 1) * (mg r : Int) := by
  rw [vl_eq (wd_lt h), wd_mod h, wd_sign h]

theorem wd_of {b : Nat} (hb : b < 18446744073709551616) : b = wd (decide (9223372036854775808 ≤ b)) (b % 9223372036854775808) := by
  unfold wd
  by_cases h : 9223372036854775808 ≤ b
  · rw [decide_eq_true h, if_pos rfl]; omega
  · rw [decide_eq_false h]; simp; omega

/-- Small whole numbers are doubles. -/
theorem mg_dn_int {c : Nat} (h : c < 9007199254740992) : mg (dn (c * U)) = c * U := by
  by_cases h0 : c = 0
  · subst h0; simp; decide
  · rw [dn_spec.1, U_pow, log2_mul c E h0]
    have hl : c.log2 < 53 := by rw [Nat.log2_lt h0]; exact h
    have e : c * 2 ^ E = c * 2 ^ (E - (c.log2 + E - 52)) * 2 ^ (c.log2 + E - 52) := by
      rw [Nat.mul_assoc, ← Nat.pow_add, show E - (c.log2 + E - 52) + (c.log2 + E - 52) = E from by have := E_eq; omega]
    have hp := Nat.two_pow_pos (c.log2 + E - 52)
    rw [e, Nat.mul_div_cancel _ hp]

theorem vl_int {c : Nat} (h : c * U < mg 9218868437227405312) : dn (c * U) < 9218868437227405312 := dn_lt h

theorem int_lt_inf {c : Nat} (h : c ≤ 36893488147419103232) : c * U < mg 9218868437227405312 :=
  Nat.lt_of_le_of_lt (Nat.mul_le_mul_right _ h) big_lt

/-- 'float64(n)'. -/
theorem floatOfInt_eq {n : Int} (h : n.natAbs ≤ 36893488147419103232) :
    floatOfInt .f64 n = wd (decide (n < 0)) (rr (n.natAbs * U)) := by
  have hlt := int_lt_inf h
  show Ieee.double.nearest (decide (n < 0)) n.natAbs 0 = _
  have e := nearest_eq (decide (n < 0)) n.natAbs E
  rw [show (-1074 : Int) + ((E : Nat) : Int) = 0 from by rw [E_eq]; omega] at e
  rw [e, word_wd, ← U_pow, Nat.min_eq_left (rr_le hlt)]

/-- 'x + x' of a positive one. -/
theorem add_self {r : Nat} (h : 2 * mg r < mg 9218868437227405312) :
    floatBits .add .f64 r r = some (dn (2 * mg r)) ∧ mg (dn (2 * mg r)) = 2 * mg r := by
  have hr : r < 9218868437227405312 := (@mg_lt r _).1 (by omega)
  have hrep : ∃ s, mg s = 2 * mg r := by
    by_cases c : r < 4503599627370496
    · refine ⟨2 * r, ?_⟩
      have b : mg r = r := by unfold mg; rw [if_pos c]
      rw [b]
      have a := @mgk 0 (2 * r) (by omega) (Or.inl rfl)
      rw [Nat.zero_mul, Nat.zero_add, Nat.pow_zero, Nat.mul_one] at a
      exact a
    · refine ⟨r + 4503599627370496, ?_⟩
      unfold mg
      rw [if_neg (by omega), if_neg c]
      have e1 : (r + 4503599627370496) % 4503599627370496 = r % 4503599627370496 := by omega
      have e2 : (r + 4503599627370496) / 4503599627370496 - 1 = (r / 4503599627370496 - 1) + 1 := by omega
      rw [e1, e2, Nat.pow_succ]
      generalize 2 ^ (r / 4503599627370496 - 1) = z
      generalize 4503599627370496 + r % 4503599627370496 = y
      rw [← Nat.mul_assoc, Nat.mul_comm]
  obtain ⟨s, hs⟩ := hrep
  have hd : mg (dn (2 * mg r)) = 2 * mg r := by rw [← hs, dn_mg]
  refine ⟨?_, hd⟩
  have hmod : r % 9223372036854775808 = r := by omega
  obtain ⟨m, p, hread, hv, _⟩ := read_num (b := r) (by omega) (by omega)
  rw [hmod] at hv
  have hneg : decide (9223372036854775808 ≤ r) = false := by simp; omega
  rw [hneg] at hread
  show Ieee.double.add r r = _
  unfold Ieee.Format.add
  rw [hread]
  simp only [Ieee.Datum.sum, Option.map_some, signed_pow]
  have e1 : (-1074 + (p : Int) - min (-1074 + (p : Int)) (-1074 + (p : Int))).toNat = 0 := by omega
  have e2 : min (-1074 + (p : Int)) (-1074 + (p : Int)) = -1074 + (p : Int) := by omega
  rw [e1, e2]
  have e3 : ((if (false : Bool) = true then (-1 : Int) else 1) * ((m * 2 ^ 0 : Nat) : Int) + (if (false : Bool) = true then (-1 : Int) else 1) * ((m * 2 ^ 0 : Nat) : Int)) = ((2 * m : Nat) : Int) := by
    simp; omega
  rw [e3]
  have e4 : (if ((2 * m : Nat) : Int) = 0 then false && false else decide (((2 * m : Nat) : Int) < 0)) = false := by
    split
    · rfl
    · simp; omega
  rw [e4, Int.natAbs_natCast]
  show some (Ieee.double.nearest false (2 * m) (-1074 + (p : Int))) = _
  rw [nearest_eq, word_wd, Nat.mul_assoc, ← hv, ← hs, rr_mg, dn_mg]
  have : s < 9218868437227405312 := (@mg_lt s _).1 (by omega)
  rw [Nat.min_eq_left (by omega)]
  rfl

/-- The size of a floor or of a ceiling. -/
def cutv (up : Bool) (v : Nat) : Nat := v / U + (up && v % U != 0).toNat

theorem cut_eq (way : Ieee.Toward) (up : Bool) (s : Bool) (m p : Nat) (hway : (way = .down ∧ up = s) ∨ (way = .up ∧ up = !s) ∨ (way = .zero ∧ up = false)) :
    way.cut s (m <<< (-1074 + (p : Int)).toNat) (-(-1074 + (p : Int))).toNat = cutv up (m * 2 ^ p) := by
  unfold Ieee.Toward.cut cutv
  simp only [Nat.shiftLeft_eq, Nat.one_mul]
  by_cases hp : 1074 ≤ p
  · have d1 : (-1074 + (p : Int)).toNat = p - 1074 := by omega
    have d2 : (-(-1074 + (p : Int))).toNat = 0 := by omega
    rw [d1, d2]
    have f : m * 2 ^ p = m * 2 ^ (p - 1074) * U := by rw [U_pow, Nat.mul_assoc, ← Nat.pow_add, show p - 1074 + E = p from by rw [E_eq]; omega]
    rw [f, Nat.mul_div_cancel _ U_pos, Nat.mul_mod_left]
    simp only [Nat.zero_min, Nat.pow_zero, Nat.div_one, Nat.mod_one]
    rcases hway with ⟨rfl, rfl⟩ | ⟨rfl, rfl⟩ | ⟨rfl, rfl⟩ <;> simp
  · have d1 : (-1074 + (p : Int)).toNat = 0 := by omega
    have d2 : (-(-1074 + (p : Int))).toNat = 1074 - p := by omega
    rw [d1, d2]
    simp only [Nat.pow_zero, Nat.mul_one]
    have hpp := Nat.two_pow_pos p
    have f : U = 2 ^ (1074 - p) * 2 ^ p := by rw [U_pow, ← Nat.pow_add, show 1074 - p + p = E from by rw [E_eq]; omega]
    have g1 : m * 2 ^ p / U = m / 2 ^ (1074 - p) := by rw [f, Nat.mul_div_mul_right _ _ hpp]
    have g2 : (m * 2 ^ p % U != 0) = (m % 2 ^ (1074 - p) != 0) := by
      rw [f, Nat.mul_mod_mul_right, Bool.eq_iff_iff, bne_iff_ne, bne_iff_ne]
      constructor
      · intro h e; rw [e] at h; simp at h
      · intro h e; rcases Nat.mul_eq_zero.1 e with e | e <;> omega
    rw [g1, g2]
    clear g1 g2 f
    have h1 : m / 2 ^ min (1074 - p) (m.log2 + 2) = m / 2 ^ (1074 - p) := by
      by_cases c : 1074 - p ≤ m.log2 + 2
      · rw [Nat.min_eq_left c]
      · rw [Nat.min_eq_right (by omega)]
        have a : m < 2 ^ (m.log2 + 1) := Nat.lt_log2_self
        have b : m < 2 ^ (m.log2 + 2) := Nat.lt_of_lt_of_le a (Nat.pow_le_pow_right (by omega) (by omega))
        have b' : m < 2 ^ (1074 - p) := Nat.lt_of_lt_of_le a (Nat.pow_le_pow_right (by omega) (by omega))
        rw [Nat.div_eq_of_lt b, Nat.div_eq_of_lt b']
    have h2 : m % 2 ^ min (1074 - p) (m.log2 + 2) = m % 2 ^ (1074 - p) := by
      by_cases c : 1074 - p ≤ m.log2 + 2
      · rw [Nat.min_eq_left c]
      · rw [Nat.min_eq_right (by omega)]
        have a : m < 2 ^ (m.log2 + 1) := Nat.lt_log2_self
        have b : m < 2 ^ (m.log2 + 2) := Nat.lt_of_lt_of_le a (Nat.pow_le_pow_right (by omega) (by omega))
        have b' : m < 2 ^ (1074 - p) := Nat.lt_of_lt_of_le a (Nat.pow_le_pow_right (by omega) (by omega))
        rw [Nat.mod_eq_of_lt b, Nat.mod_eq_of_lt b']
    rw [h1, h2]
    generalize m % 2 ^ (1074 - p) = y
    generalize m / 2 ^ (1074 - p) = x
    rcases hway with ⟨rfl, rfl⟩ | ⟨rfl, rfl⟩ | ⟨rfl, rfl⟩ <;> simp

/-- What is cut is a double. -/
theorem cutv_rep (up : Bool) {r : Nat} (hr : r < 9218868437227405312) : mg (dn (cutv up (mg r) * U)) = cutv up (mg r) * U ∧ dn (cutv up (mg r) * U) < 9218868437227405312 := by
  obtain ⟨m, p, _, hv, _, hm⟩ := read_num (b := r) (by omega) (by omega)
  have hmod : r % 9223372036854775808 = r := by omega
  rw [hmod] at hv
  by_cases hp : 1074 ≤ p
  · have f : m * 2 ^ p = m * 2 ^ (p - 1074) * U := by rw [U_pow, Nat.mul_assoc, ← Nat.pow_add, show p - 1074 + E = p from by rw [E_eq]; omega]
    have e : cutv up (mg r) * U = mg r := by
      unfold cutv
      rw [hv, f, Nat.mul_div_cancel _ U_pos, Nat.mul_mod_left]; simp
    rw [e, dn_mg]
    exact ⟨rfl, hr⟩
  · have hc : cutv up (mg r) < 9007199254740992 := by
      unfold cutv
      rw [hv]
      have hpp := Nat.two_pow_pos p
      have f : U = 2 ^ (1074 - p) * 2 ^ p := by rw [U_pow, ← Nat.pow_add, show 1074 - p + p = E from by rw [E_eq]; omega]
      have g1 : m * 2 ^ p / U = m / 2 ^ (1074 - p) := by rw [f, Nat.mul_div_mul_right _ _ hpp]
      have g3 : m / 2 ^ (1074 - p) ≤ m / 2 := Nat.div_le_div_left (by have : 2 ^ 1 ≤ 2 ^ (1074 - p) := Nat.pow_le_pow_right (by omega) (by omega); omega) (by omega)
      rw [g1]
      have := Bool.toNat_le (up && m * 2 ^ p % U != 0)
      omega
    exact ⟨mg_dn_int hc, vl_int (int_lt_inf (by omega))⟩

/-- Floor and ceiling of a finite double. -/
theorem integral_eq (way : Ieee.Toward) (up : Bool) {b : Nat} (hb : b < 18446744073709551616) (h : b % 9223372036854775808 < 9218868437227405312)
    (hway : (way = .down ∧ up = decide (9223372036854775808 ≤ b)) ∨ (way = .up ∧ up = !decide (9223372036854775808 ≤ b))) :
    Ieee.double.write ((Ieee.double.read b).integral way) = wd (decide (9223372036854775808 ≤ b)) (dn (cutv up (mg (b % 9223372036854775808)) * U)) := by
  obtain ⟨m, p, hread, hv, _⟩ := read_num hb h
  obtain ⟨h1, h2⟩ := cutv_rep up h
  rw [hread]
  simp only [Ieee.Datum.integral]
  rw [cut_eq way up _ m p (by rcases hway with h | h; exact Or.inl h; exact Or.inr (Or.inl h)), ← hv]
  show Ieee.double.nearest _ _ 0 = _
  have e := nearest_eq (decide (9223372036854775808 ≤ b)) (cutv up (mg (b % 9223372036854775808))) E
  rw [show (-1074 : Int) + ((E : Nat) : Int) = 0 from by rw [E_eq]; omega] at e
  rw [e, word_wd, ← U_pow]
  rw [show rr (cutv up (mg (b % 9223372036854775808)) * U) = dn (cutv up (mg (b % 9223372036854775808)) * U) from by
    have := rr_mg (dn (cutv up (mg (b % 9223372036854775808)) * U)); rw [h1] at this; exact this]
  rw [Nat.min_eq_left (by omega)]

/-- 'int64(x)' of a whole x that fits. -/
theorem toInt_eq {s : Bool} {r c : Nat} (hr : r < 9218868437227405312) (hc : mg r = c * U) (hfit : if s then c ≤ 9223372036854775808 else c < 9223372036854775808) :
    floatToIntVal .f64 (wd s r) .i64 = some (if s then -(c : Int) else (c : Int)) := by
  have hb := @wd_lt s r (by omega)
  have hmod := @wd_mod s r (by omega)
  have hsg := @wd_sign s r (by omega)
  obtain ⟨m, p, hread, hv, _⟩ := read_num hb (by rw [hmod]; exact hr)
  rw [hmod] at hv
  rw [hsg] at hread
  unfold floatToIntVal
  show (match (Ieee.double.read (wd s r)).toInt .zero with | some n => if IntKind.i64.min ≤ n ∧ n ≤ IntKind.i64.max then some n else none | none => none) = _
  rw [hread]
  simp only [Ieee.Datum.toInt, Ieee.Datum.integral]
  rw [cut_eq .zero false s m p (Or.inr (Or.inr ⟨rfl, rfl⟩)), ← hv, hc]
  have e : cutv false (c * U) = c := by unfold cutv; rw [Nat.mul_div_cancel _ U_pos]; simp
  rw [e]
  have e2 : Ieee.signed s c 0 = if s then -(c : Int) else (c : Int) := by
    unfold Ieee.signed; simp
  rw [e2]
  have m1 : IntKind.i64.min = -9223372036854775808 := by decide
  have m2 : IntKind.i64.max = 9223372036854775807 := by decide
  rw [m1, m2, if_pos]
  cases s <;> simp at hfit ⊢ <;> omega

end Fl
end Go.Proofs.YtmebmfgmopdieaaGreatDoor

/-! Exact sums and products of doubles, as plain facts on Ieee.double. No program in sight. -/
set_option linter.unusedSimpArgs false
set_option linter.unusedVariables false
namespace Go.Proofs.YtmebmfgmopdieaaGreatDoor
namespace Fl

theorem two_mg (r : Nat) : ∃ s, mg s = 2 * mg r := by
  by_cases c : r < 4503599627370496
  · refine ⟨2 * r, ?_⟩
    have b : mg r = r := by unfold mg; rw [if_pos c]
    rw [b]
    have a := @mgk 0 (2 * r) (by omega) (Or.inl rfl)
    rw [Nat.zero_mul, Nat.zero_add, Nat.pow_zero, Nat.mul_one] at a
    exact a
  · refine ⟨r + 4503599627370496, ?_⟩
    unfold mg
    rw [if_neg (by omega), if_neg c]
    have e1 : (r + 4503599627370496) % 4503599627370496 = r % 4503599627370496 := by omega
    have e2 : (r + 4503599627370496) / 4503599627370496 - 1 = (r / 4503599627370496 - 1) + 1 := by omega
    rw [e1, e2, Nat.pow_succ]
    generalize 2 ^ (r / 4503599627370496 - 1) = z
    generalize 4503599627370496 + r % 4503599627370496 = y
    rw [← Nat.mul_assoc, Nat.mul_comm]

/-- A whole number of at most 53 bits times a power of two is a double, while it is no infinity. -/
theorem rep_shift {c : Nat} (h : c ≤ 9007199254740992) (j : Nat) : ∃ s, mg s = c * 2 ^ j * U := by
  induction j with
  | zero =>
    by_cases c1 : c < 9007199254740992
    · exact ⟨_, by rw [mg_dn_int c1, Nat.pow_zero, Nat.mul_one]⟩
    · exact ⟨E * 4503599627370496 + c, by rw [mgk h (Or.inr (by omega)), U_pow, Nat.pow_zero, Nat.mul_one]⟩
  | succ j ih =>
    obtain ⟨s, hs⟩ := ih
    obtain ⟨t, ht⟩ := two_mg s
    refine ⟨t, ?_⟩
    rw [ht, hs, Nat.pow_succ]; generalize 2 ^ j = p; generalize U = u; ac_rfl

theorem rep_dn {c : Nat} (h : c ≤ 9007199254740992) (j : Nat) : mg (dn (c * 2 ^ j * U)) = c * 2 ^ j * U := by
  obtain ⟨s, hs⟩ := rep_shift h j
  rw [← hs, dn_mg]

/-- 'x + y' of positive ones, where the sum is a double. -/
theorem add_pos {r s t : Nat} (h : mg t = mg r + mg s) (ht : t < 9218868437227405312) : floatBits .add .f64 r s = some t := by
  have hr : r ≤ t := (@mg_le r t).1 (by omega)
  have hs : s ≤ t := (@mg_le s t).1 (by omega)
  have hmr : r % 9223372036854775808 = r := by omega
  have hms : s % 9223372036854775808 = s := by omega
  obtain ⟨m, p, hread, hv, _⟩ := read_num (b := r) (by omega) (by omega)
  obtain ⟨n, q, hread2, hv2, _⟩ := read_num (b := s) (by omega) (by omega)
  rw [hmr] at hv
  rw [hms] at hv2
  have hneg : decide (9223372036854775808 ≤ r) = false := by simp; omega
  have hneg2 : decide (9223372036854775808 ≤ s) = false := by simp; omega
  rw [hneg] at hread
  rw [hneg2] at hread2
  show Ieee.double.add r s = _
  unfold Ieee.Format.add
  rw [hread, hread2]
  simp only [Ieee.Datum.sum, Option.map_some, signed_pow]
  obtain ⟨k, hk⟩ : ∃ k : Nat, min (-1074 + (p : Int)) (-1074 + (q : Int)) = -1074 + (k : Int) ∧ k ≤ p ∧ k ≤ q := by
    by_cases c : p ≤ q
    · exact ⟨p, by omega, by omega, c⟩
    · exact ⟨q, by omega, by omega, by omega⟩
  obtain ⟨hk, kp, kq⟩ := hk
  rw [hk]
  have e1 : (-1074 + (p : Int) - (-1074 + (k : Int))).toNat = p - k := by omega
  have e2 : (-1074 + (q : Int) - (-1074 + (k : Int))).toNat = q - k := by omega
  rw [e1, e2]
  have e3 : ((if (false : Bool) = true then (-1 : Int) else 1) * ((m * 2 ^ (p - k) : Nat) : Int) + (if (false : Bool) = true then (-1 : Int) else 1) * ((n * 2 ^ (q - k) : Nat) : Int)) = ((m * 2 ^ (p - k) + n * 2 ^ (q - k) : Nat) : Int) := by
    simp
  rw [e3]
  have e5 : (m * 2 ^ (p - k) + n * 2 ^ (q - k)) * 2 ^ k = mg t := by
    rw [h, hv, hv2, Nat.add_mul, Nat.mul_assoc, Nat.mul_assoc, ← Nat.pow_add, ← Nat.pow_add, Nat.sub_add_cancel kp, Nat.sub_add_cancel kq]
  generalize m * 2 ^ (p - k) + n * 2 ^ (q - k) = M at *
  have e4 : (if ((M : Nat) : Int) = 0 then false && false else decide (((M : Nat) : Int) < 0)) = false := by
    split
    · rfl
    · simp
  rw [e4, Int.natAbs_natCast]
  show some (Ieee.double.nearest false M (-1074 + (k : Int))) = _
  rw [nearest_eq, word_wd, e5, rr_mg, Nat.min_eq_left (by omega)]
  rfl

/-- The word of a power of two. -/
def pw (i : Nat) : Nat := (1023 + i) * 4503599627370496
theorem pw_mul : ∀ i < 63, floatBits .mul .f64 (pw i) 4611686018427387904 = some (pw (i + 1)) := by decide +kernel
theorem pw_mg : ∀ i < 64, mg (pw i) = 2 ^ i * U := by decide +kernel
theorem pw_zero : pw 0 = 4607182418800017408 := by decide
/-- A power of two, squared again and again. -/
def sq : Nat → Nat
  | 0 => pw 63
  | j + 1 => (floatBits .mul .f64 (sq j) (sq j)).getD 0
theorem sq_mul : ∀ j < 12, floatBits .mul .f64 (sq j) (sq j) = some (sq (j + 1)) := by decide +kernel
theorem sq_end : sq 12 = 9218868437227405312 := by decide +kernel
end Fl
end Go.Proofs.YtmebmfgmopdieaaGreatDoor

/-! Sums, differences and halves of doubles: the exact result, rounded. Plain facts on Ieee.double. No program in sight. -/
set_option linter.unusedSimpArgs false
set_option linter.unusedVariables false
namespace Go.Proofs.YtmebmfgmopdieaaGreatDoor
namespace Fl

def sg (x : Nat) : Bool := decide (9223372036854775808 ≤ x)
/-- A finite number, or an infinity, or NaN. -/
def fin (x : Nat) : Bool := decide (x % 9223372036854775808 < 9218868437227405312)
/-- The word nearest to a value; nz: the sign of a zero. -/
def rndW (nz : Bool) (s : Int) : Nat := wd (if s = 0 then nz else decide (s < 0)) (min (rr s.natAbs) 9218868437227405312)

theorem rndW_lt (nz : Bool) (s : Int) : rndW nz s < 18446744073709551616 := wd_lt (by omega)
theorem rndW_nan (nz : Bool) (s : Int) : nan (rndW nz s) = false := nan_wd (by omega)

theorem sum_core {sx sy : Bool} {m n p q : Nat} {vx vy : Int} (hx : vx = (if sx then -1 else 1) * ((m * 2 ^ p : Nat) : Int)) (hy : vy = (if sy then -1 else 1) * ((n * 2 ^ q : Nat) : Int)) :
    ((Ieee.Datum.number sx m (-1074 + (p : Int))).sum (.number sy n (-1074 + (q : Int)))).map Ieee.double.write = some (rndW (sx && sy) (vx + vy)) := by
  simp only [Ieee.Datum.sum, Option.map_some, signed_pow]
  obtain ⟨k, hk, kp, kq⟩ : ∃ k : Nat, min (-1074 + (p : Int)) (-1074 + (q : Int)) = -1074 + (k : Int) ∧ k ≤ p ∧ k ≤ q := by
    by_cases c : p ≤ q
    · exact ⟨p, by omega, by omega, c⟩
    · exact ⟨q, by omega, by omega, by omega⟩
  rw [hk]
  have e1 : (-1074 + (p : Int) - (-1074 + (k : Int))).toNat = p - k := by omega
  have e2 : (-1074 + (q : Int) - (-1074 + (k : Int))).toNat = q - k := by omega
  rw [e1, e2]
  have hp : m * 2 ^ p = m * 2 ^ (p - k) * 2 ^ k := by rw [Nat.mul_assoc, ← Nat.pow_add, Nat.sub_add_cancel kp]
  have hq : n * 2 ^ q = n * 2 ^ (q - k) * 2 ^ k := by rw [Nat.mul_assoc, ← Nat.pow_add, Nat.sub_add_cancel kq]
  have et : vx + vy = ((if sx then -1 else 1) * ((m * 2 ^ (p - k) : Nat) : Int) + (if sy then -1 else 1) * ((n * 2 ^ (q - k) : Nat) : Int)) * ((2 ^ k : Nat) : Int) := by
    rw [hx, hy, hp, hq, Int.add_mul, Int.natCast_mul _ (2 ^ k), Int.natCast_mul _ (2 ^ k)]
    simp only [Int.mul_assoc]
  generalize ((if sx then -1 else 1) * ((m * 2 ^ (p - k) : Nat) : Int) + (if sy then -1 else 1) * ((n * 2 ^ (q - k) : Nat) : Int)) = T at *
  have h2 : 0 < ((2 ^ k : Nat) : Int) := by have := Nat.two_pow_pos k; omega
  have z1 : T = 0 ↔ vx + vy = 0 := by
    rw [et]; constructor
    · rintro rfl; simp
    · intro h; rcases Int.mul_eq_zero.1 h with h | h
      · exact h
      · omega
  have z2 : T < 0 ↔ vx + vy < 0 := by
    rw [et]; constructor
    · intro h; exact Int.mul_neg_of_neg_of_pos h h2
    · intro h
      by_cases c : T < 0
      · exact c
      · have := Int.mul_nonneg (show 0 ≤ T by omega) (Int.le_of_lt h2); omega
  have ha : (vx + vy).natAbs = T.natAbs * 2 ^ k := by rw [et, Int.natAbs_mul, Int.natAbs_natCast]
  show some (Ieee.double.nearest _ _ _) = _
  rw [nearest_eq, word_wd, ← ha]
  unfold rndW
  congr 2
  by_cases c : T = 0
  · rw [if_pos c, if_pos (z1.1 c)]
  · rw [if_neg c, if_neg (fun h => c (z1.2 h))]
    by_cases d : T < 0
    · rw [decide_eq_true d, decide_eq_true (z2.1 d)]
    · rw [decide_eq_false d, decide_eq_false (fun h => d (z2.2 h))]

theorem read_fin {x : Nat} (hx : x < 18446744073709551616) (h : fin x = true) : ∃ m p : Nat, Ieee.double.read x = .number (sg x) m (-1074 + (p : Int)) ∧ vl x = (if sg x then -1 else 1) * ((m * 2 ^ p : Nat) : Int) ∧ m < 9007199254740992 ∧ (p = 0 ∨ 4503599627370496 ≤ m) ∧ mg (x % 9223372036854775808) = m * 2 ^ p := by
  obtain ⟨m, p, hr, hv, h3⟩ := read_num hx (of_decide_eq_true h)
  exact ⟨m, p, hr, by rw [vl_eq hx, hv]; rfl, h3.2, h3.1, hv⟩

theorem add_val {x y : Nat} (hx : x < 18446744073709551616) (hy : y < 18446744073709551616) (fx : fin x = true) (fy : fin y = true) :
    floatBits .add .f64 x y = some (rndW (sg x && sg y) (vl x + vl y)) := by
  obtain ⟨m, p, hr, hv, _⟩ := read_fin hx fx
  obtain ⟨n, q, hr2, hv2, _⟩ := read_fin hy fy
  show ((Ieee.double.read x).sum (Ieee.double.read y)).map Ieee.double.write = _
  rw [hr, hr2]
  exact sum_core hv hv2

theorem sub_val {x y : Nat} (hx : x < 18446744073709551616) (hy : y < 18446744073709551616) (fx : fin x = true) (fy : fin y = true) :
    floatBits .sub .f64 x y = some (rndW (sg x && !sg y) (vl x - vl y)) := by
  obtain ⟨m, p, hr, hv, _⟩ := read_fin hx fx
  obtain ⟨n, q, hr2, hv2, _⟩ := read_fin hy fy
  show ((Ieee.double.read x).sum (Ieee.double.read y).opposite).map Ieee.double.write = _
  rw [hr, hr2]
  refine (sum_core (vy := -vl y) hv ?_).trans (by rw [Int.sub_eq_add_neg])
  rw [hv2]; cases sg y <;> simp

theorem cut_exact (neg : Bool) (m d k : Nat) (h0 : m ≠ 0) (h : k ≤ d) : Ieee.Toward.even.cut neg (m * 2 ^ d) k = m * 2 ^ (d - k) := by
  have hl : (m * 2 ^ d).log2 = m.log2 + d := log2_mul m d h0
  unfold Ieee.Toward.cut
  simp only [Nat.shiftLeft_eq, Nat.one_mul]
  rw [hl, Nat.min_eq_left (by omega)]
  have f : m * 2 ^ d = m * 2 ^ (d - k) * 2 ^ k := by rw [Nat.mul_assoc, ← Nat.pow_add, Nat.sub_add_cancel h]
  have hk := Nat.two_pow_pos k
  rw [f, Nat.mul_div_cancel _ hk, Nat.mul_mod_left]
  have h1 : decide (2 ^ k < 2 * 0) = false := by simp
  have h2 : (2 ^ k == 2 * 0) = false := by rw [beq_eq_false_iff_ne]; omega
  rw [h1, h2]; rfl

/-- Zeros behind a number do not matter to 'nearest'. -/
theorem nearest_scale (neg : Bool) {m : Nat} (d p : Nat) (hm : m < 9007199254740992) (h0 : m ≠ 0) :
    Ieee.double.nearest neg (m * 2 ^ d) (-1074 + (p : Int) - (d : Int)) = Ieee.double.nearest neg m (-1074 + (p : Int)) := by
  have e2 : Ieee.double.binade = 4503599627370496 := by decide
  have e3 : Ieee.double.infRung = 9218868437227405312 := by decide
  have e4 : Ieee.double.leastPlace = -1074 := by decide
  have e5 : (Ieee.double.fractionBits : Int) = 52 := by decide
  have hd := Nat.two_pow_pos d
  have h1 : m * 2 ^ d ≠ 0 := by intro e; rcases Nat.mul_eq_zero.1 e with e | e <;> omega
  have hl : (m * 2 ^ d).log2 = m.log2 + d := log2_mul m d h0
  have hb : m.log2 ≤ 52 := by
    have := (Nat.log2_lt h0 (k := 53)).2 hm
    omega
  unfold Ieee.Format.nearest
  rw [if_neg h1, if_neg h0]
  simp only [e2, e3, e4, e5]
  rw [hl]
  have eL : max (-1074 + (p : Int) - (d : Int) + ((m.log2 + d : Nat) : Int) - 52) (-1074) = max (-1074 + (p : Int) + (m.log2 : Int) - 52) (-1074) := by omega
  rw [eL]
  obtain ⟨L, hL, hLp⟩ : ∃ L : Nat, max (-1074 + (p : Int) + (m.log2 : Int) - 52) (-1074) = -1074 + (L : Int) ∧ L ≤ p := by
    refine ⟨p + m.log2 - 52, ?_, ?_⟩ <;> omega
  rw [hL]
  have r1 : (-1074 + (p : Int) - (-1074 + (L : Int))).toNat = p - L := by omega
  have r2 : (-1074 + (L : Int) - (-1074 + (p : Int))).toNat = 0 := by omega
  rw [r1, r2, cut_zero]
  by_cases c : d + L ≤ p
  · have l1 : (-1074 + (p : Int) - (d : Int) - (-1074 + (L : Int))).toNat = p - L - d := by omega
    have l2 : (-1074 + (L : Int) - (-1074 + (p : Int) - (d : Int))).toNat = 0 := by omega
    rw [l1, l2, cut_zero, Nat.shiftLeft_eq, Nat.shiftLeft_eq, Nat.mul_assoc, ← Nat.pow_add, show d + (p - L - d) = p - L by omega]
  · have l1 : (-1074 + (p : Int) - (d : Int) - (-1074 + (L : Int))).toNat = 0 := by omega
    have l2 : (-1074 + (L : Int) - (-1074 + (p : Int) - (d : Int))).toNat = d - (p - L) := by omega
    rw [l1, l2, Nat.shiftLeft_zero, cut_exact neg m d _ h0 (by omega), Nat.shiftLeft_eq, show d - (d - (p - L)) = p - L by omega]

theorem read_two : Ieee.double.read 4611686018427387904 = .number false 4503599627370496 (-51) := by decide +kernel

theorem log2_le {m : Nat} (hm : m < 9007199254740992) : m.log2 ≤ 52 := by
  by_cases h0 : m = 0
  · subst h0; decide
  · have := (Nat.log2_lt h0 (k := 53)).2 hm
    omega

/-- 'x / 2' of a number that is not among the least. -/
theorem half_val {x m p : Nat} (hx : x < 18446744073709551616) (hr : Ieee.double.read x = .number (sg x) m (-1074 + (p : Int))) (hm : m < 9007199254740992) (hm2 : 4503599627370496 ≤ m) (hp : 1 ≤ p) :
    floatBits .quo .f64 x 4611686018427387904 = some (wd (sg x) ((p - 1) * 4503599627370496 + m)) ∨ 9218868437227405312 ≤ (p - 1) * 4503599627370496 + m := by
  by_cases hinf : 9218868437227405312 ≤ (p - 1) * 4503599627370496 + m
  · exact .inr hinf
  left
  show ((Ieee.double.read x).quotient 54 (Ieee.double.read 4611686018427387904)).map Ieee.double.write = _
  rw [hr, read_two]
  simp only [Ieee.Datum.quotient]
  rw [if_neg (by decide)]
  have hl := log2_le hm
  have e0 : (4503599627370496 : Nat).log2 = 52 := by decide +kernel
  rw [e0]
  obtain ⟨k, hk⟩ : ∃ k, 54 + 52 - m.log2 = 52 + k ∧ 2 ≤ k := ⟨54 - m.log2, by omega, by omega⟩
  obtain ⟨hk, hk2⟩ := hk
  rw [hk, Nat.shiftLeft_eq, Nat.pow_add, ← Nat.mul_assoc]
  have e1 : m * 2 ^ 52 * 2 ^ k = m * 2 ^ k * 4503599627370496 := by
    rw [show (2 : Nat) ^ 52 = 4503599627370496 by decide]; ac_rfl
  rw [e1, Nat.mul_div_cancel _ (by decide), Nat.mul_mod_left]
  have e2 : 2 * (m * 2 ^ k) + ((0 : Nat) != 0).toNat = m * 2 ^ (k + 1) := by
    rw [Nat.pow_succ]; simp; generalize 2 ^ k = z; ac_rfl
  rw [e2, Bool.xor_false]
  show some (Ieee.double.nearest _ _ _) = _
  have e3 : -1074 + (p : Int) - -51 - ((52 + k : Nat) : Int) - 1 = -1074 + ((p - 1 : Nat) : Int) - ((k + 1 : Nat) : Int) := by omega
  rw [e3, nearest_scale _ _ _ hm (by omega), nearest_eq, word_wd, ← mgk (k := p - 1) (q := m) (by omega) (.inr hm2), rr_mg, Nat.min_eq_left (by omega)]

theorem cut_le (neg : Bool) (n k : Nat) : Ieee.Toward.even.cut neg n k ≤ n / 2 ^ (min k (n.log2 + 2)) + 1 := by
  unfold Ieee.Toward.cut
  simp only [Nat.shiftLeft_eq, Nat.one_mul]
  refine Nat.add_le_add_left ?_ _
  cases (decide (2 ^ min k (n.log2 + 2) < 2 * (n % 2 ^ min k (n.log2 + 2))) || (2 ^ min k (n.log2 + 2) == 2 * (n % 2 ^ min k (n.log2 + 2)) && (n / 2 ^ min k (n.log2 + 2)) % 2 == 1)) <;> decide

/-- 'x / 2' of one of the least. -/
theorem half_low {x m : Nat} (hx : x < 18446744073709551616) (hr : Ieee.double.read x = .number (sg x) m (-1074 + ((0 : Nat) : Int))) (hm : m < 9007199254740992) :
    ∃ r, floatBits .quo .f64 x 4611686018427387904 = some (wd (sg x) r) ∧ r < 9218868437227405312 := by
  show ∃ r, ((Ieee.double.read x).quotient 54 (Ieee.double.read 4611686018427387904)).map Ieee.double.write = some (wd (sg x) r) ∧ _
  rw [hr, read_two]
  simp only [Ieee.Datum.quotient]
  rw [if_neg (by decide)]
  have hl := log2_le hm
  have e0 : (4503599627370496 : Nat).log2 = 52 := by decide +kernel
  rw [e0]
  by_cases h0 : m = 0
  · subst h0
    refine ⟨0, ?_, by decide⟩
    simp only [Nat.zero_shiftLeft, Nat.zero_div, Nat.zero_mod, Bool.xor_false, Option.map_some, Ieee.Format.write]
    show some (Ieee.double.nearest (sg x) (2 * 0 + ((0 : Nat) != 0).toNat) _) = _
    rw [show 2 * 0 + ((0 : Nat) != 0).toNat = 0 from rfl]
    unfold Ieee.Format.nearest
    rw [if_pos rfl, word_wd]
  obtain ⟨k, hk⟩ : ∃ k, 54 + 52 - m.log2 = 52 + k ∧ k = 54 - m.log2 := ⟨54 - m.log2, by omega, rfl⟩
  obtain ⟨hk, hk2⟩ := hk
  rw [hk, Nat.shiftLeft_eq, Nat.pow_add, ← Nat.mul_assoc]
  have e1 : m * 2 ^ 52 * 2 ^ k = m * 2 ^ k * 4503599627370496 := by
    rw [show (2 : Nat) ^ 52 = 4503599627370496 by decide]; ac_rfl
  rw [e1, Nat.mul_div_cancel _ (by decide), Nat.mul_mod_left]
  have e2 : 2 * (m * 2 ^ k) + ((0 : Nat) != 0).toNat = m * 2 ^ (k + 1) := by
    rw [Nat.pow_succ]; simp; generalize 2 ^ k = z; ac_rfl
  rw [e2, Bool.xor_false]
  have e3 : -1074 + ((0 : Nat) : Int) - -51 - ((52 + k : Nat) : Int) - 1 = -1074 - ((k + 2 : Nat) : Int) := by omega
  rw [e3]
  show ∃ r, some (Ieee.double.nearest _ _ _) = _ ∧ _
  have b2 : Ieee.double.binade = 4503599627370496 := by decide
  have b3 : Ieee.double.infRung = 9218868437227405312 := by decide
  have b4 : Ieee.double.leastPlace = -1074 := by decide
  have b5 : (Ieee.double.fractionBits : Int) = 52 := by decide
  have hk1 := Nat.two_pow_pos (k + 1)
  have h1 : m * 2 ^ (k + 1) ≠ 0 := by intro e; rcases Nat.mul_eq_zero.1 e with e | e <;> omega
  have hlg : (m * 2 ^ (k + 1)).log2 = m.log2 + (k + 1) := log2_mul m (k + 1) h0
  unfold Ieee.Format.nearest
  rw [if_neg h1]
  simp only [b2, b3, b4, b5, hlg]
  have eL : max (-1074 - ((k + 2 : Nat) : Int) + ((m.log2 + (k + 1) : Nat) : Int) - 52) (-1074) = -1074 := by omega
  rw [eL]
  have l0 : ((-1074 : Int) - -1074).toNat = 0 := by decide
  have l1 : (-1074 - ((k + 2 : Nat) : Int) - -1074).toNat = 0 := by omega
  have l2 : (-1074 - (-1074 - ((k + 2 : Nat) : Int))).toNat = k + 2 := by omega
  rw [l0, l1, l2, Nat.shiftLeft_zero, Nat.zero_mul, Nat.zero_add]
  have hc := cut_le (sg x) (m * 2 ^ (k + 1)) (k + 2)
  rw [hlg, Nat.min_eq_left (by omega)] at hc
  have hq : m * 2 ^ (k + 1) / 2 ^ (k + 2) = m / 2 := by
    rw [Nat.pow_succ 2 (k + 1), Nat.mul_comm (2 ^ (k + 1)) 2, Nat.mul_div_mul_right _ _ hk1]
  rw [hq] at hc
  refine ⟨_, by rw [word_wd], ?_⟩
  have : Ieee.Toward.even.cut (sg x) (m * 2 ^ (k + 1)) (k + 2) ≤ 4503599627370497 := by omega
  omega

theorem rr_lo {v r : Nat} (h : mg r ≤ v) : r ≤ rr v := by
  have h1 := dn_mono h
  rw [dn_mg] at h1
  rcases rr_or v with e | ⟨e, _⟩ <;> omega
theorem rr_hi {v r : Nat} (h : v ≤ mg r) : rr v ≤ r := by
  by_cases c : v = mg r
  · rw [c, rr_mg]; omega
  · have := @dn_lt v r (by omega)
    rcases rr_or v with e | ⟨e, _⟩ <;> omega

theorem vl_sg {x : Nat} (hx : x < 18446744073709551616) : vl x = if sg x then -(mg (x % 9223372036854775808) : Int) else (mg (x % 9223372036854775808) : Int) := by
  rw [vl_eq hx]; unfold sg; cases decide (9223372036854775808 ≤ x) <;> simp

theorem fin_wd {neg : Bool} {r : Nat} (h : r < 9218868437227405312) : fin (wd neg r) = true := by
  unfold fin; rw [wd_mod (by omega)]; simpa using h

/-- What is rounded stays between two doubles that the exact value is between. -/
theorem rnd_between {x y : Nat} {s : Int} (nz : Bool) (hx : x < 18446744073709551616) (hy : y < 18446744073709551616) (fx : fin x = true) (fy : fin y = true) (h1 : vl x ≤ s) (h2 : s ≤ vl y) :
    vl x ≤ vl (rndW nz s) ∧ vl (rndW nz s) ≤ vl y ∧ fin (rndW nz s) = true := by
  have gx : x % 9223372036854775808 < 9218868437227405312 := of_decide_eq_true fx
  have gy : y % 9223372036854775808 < 9218868437227405312 := of_decide_eq_true fy
  have vx := vl_sg hx
  have vy := vl_sg hy
  generalize x % 9223372036854775808 = rx at *
  generalize y % 9223372036854775808 = ry at *
  unfold rndW
  by_cases c0 : s = 0
  · subst c0
    have e : rr (0 : Int).natAbs = 0 := by decide
    have m0 := mg_zero
    rw [e, if_pos rfl, Nat.min_eq_left (by omega), vl_wd (by omega), m0]
    refine ⟨by simpa using h1, by simpa using h2, fin_wd (by omega)⟩
  rw [if_neg c0]
  by_cases c : s < 0
  · rw [decide_eq_true c]
    have k1 : s.natAbs ≤ mg rx := by
      cases h : sg x <;> rw [h] at vx <;> simp at vx <;> omega
    have k2 := rr_hi k1
    rw [Nat.min_eq_left (by omega), vl_wd (by omega)]
    have k3 := (@mg_le (rr s.natAbs) rx).2 k2
    refine ⟨?_, ?_, fin_wd (by omega)⟩
    · cases h : sg x <;> rw [h] at vx <;> simp at vx ⊢ <;> omega
    · cases h : sg y <;> rw [h] at vy <;> simp at vy ⊢
      · omega
      · have k4 := @rr_lo s.natAbs ry (by omega)
        have k5 := (@mg_le ry (rr s.natAbs)).2 k4
        omega
  · rw [decide_eq_false c]
    have k1 : s.natAbs ≤ mg ry := by
      cases h : sg y <;> rw [h] at vy <;> simp at vy <;> omega
    have k2 := rr_hi k1
    rw [Nat.min_eq_left (by omega), vl_wd (by omega)]
    have k3 := (@mg_le (rr s.natAbs) ry).2 k2
    refine ⟨?_, ?_, fin_wd (by omega)⟩
    · cases h : sg x <;> rw [h] at vx <;> simp at vx ⊢
      · have k4 := @rr_lo s.natAbs rx (by omega)
        have k5 := (@mg_le rx (rr s.natAbs)).2 k4
        omega
      · omega
    · cases h : sg y <;> rw [h] at vy <;> simp at vy ⊢ <;> omega

/-- The middle of two numbers that are not among the least lies between them. -/
theorem half_ok {x : Nat} (hx : x < 18446744073709551616) (f : fin x = true) :
    ∃ y, floatBits .quo .f64 x 4611686018427387904 = some y ∧ y < 18446744073709551616 ∧ fin y = true ∧ (9007199254740992 ≤ x % 9223372036854775808 → 2 * vl y = vl x) := by
  obtain ⟨m, p, hr, hv, hm, h3, hmg⟩ := read_fin hx f
  have gx : x % 9223372036854775808 < 9218868437227405312 := of_decide_eq_true f
  by_cases hp : p = 0
  · subst hp
    obtain ⟨r, e, hlt⟩ := half_low hx hr hm
    refine ⟨_, e, wd_lt (by omega), fin_wd hlt, fun hbig => ?_⟩
    exfalso
    have h1 : mg 9007199254740992 ≤ mg (x % 9223372036854775808) := mg_le.2 hbig
    have h2 : mg 9007199254740992 = 9007199254740992 := by decide +kernel
    omega
  · have hm2 : 4503599627370496 ≤ m := by omega
    have hk : mg ((p - 1) * 4503599627370496 + m) = m * 2 ^ (p - 1) := mgk (by omega) (.inr hm2)
    have h2 : 2 * (m * 2 ^ (p - 1)) = m * 2 ^ p := by
      rw [show p = (p - 1) + 1 by omega, Nat.pow_succ, Nat.add_sub_cancel]; generalize 2 ^ (p - 1) = z; ac_rfl
    have hlt : (p - 1) * 4503599627370496 + m < 9218868437227405312 := by
      have : (p - 1) * 4503599627370496 + m ≤ x % 9223372036854775808 := (@mg_le _ _).1 (by rw [hk, hmg]; omega)
      omega
    have e := (half_val hx hr hm hm2 (by omega)).resolve_right (by omega)
    refine ⟨_, e, wd_lt (by omega), fin_wd hlt, fun _ => ?_⟩
    rw [vl_wd (by omega), hk, hv]
    clear e hk hmg
    generalize m * 2 ^ (p - 1) = A at *
    generalize m * 2 ^ p = B at *
    subst h2
    cases sg x <;> simp <;> omega
end Fl
end Go.Proofs.YtmebmfgmopdieaaGreatDoor

