/- Rounding to doubles, whole numbers as doubles, floors: plain facts on Ieee.double. No program in sight. -/
import Derived.Test.YtmebmfgmopdieaaGreatDoorFlNum
set_option linter.unusedSimpArgs false
set_option linter.unusedVariables false
namespace Go.Proofs.YtmebmfgmopdieaaGreatDoor
namespace Fl

/-- The greatest rung that is worth at most v. -/
def dn (v : Nat) : Nat := (v.log2 - 52) * 4503599627370496 + v / 2 ^ (v.log2 - 52)

def more (v k : Nat) : Bool := decide (2 ^ k < 2 * (v % 2 ^ k)) || (2 ^ k == 2 * (v % 2 ^ k) && v / 2 ^ k % 2 == 1)

/-- The nearest rung, between two the even one. -/
def rr (v : Nat) : Nat := if v = 0 then 0 else dn v + (more v (v.log2 - 52)).toNat

theorem log2_mul (m p : Nat) (h : m ≠ 0) : (m * 2 ^ p).log2 = m.log2 + p := by
  have hp := Nat.two_pow_pos p
  have h1 : m * 2 ^ p ≠ 0 := by
    intro e; rcases Nat.mul_eq_zero.1 e with e | e <;> omega
  have a : (m * 2 ^ p).log2 < m.log2 + p + 1 := by
    rw [Nat.log2_lt h1, show m.log2 + p + 1 = (m.log2 + 1) + p from by omega, Nat.pow_add]
    exact Nat.mul_lt_mul_of_pos_right Nat.lt_log2_self hp
  have b : ¬ (m * 2 ^ p).log2 < m.log2 + p := by
    rw [Nat.log2_lt h1, Nat.pow_add]
    have := Nat.mul_le_mul_right (2 ^ p) (Nat.log2_self_le h)
    omega
  omega

theorem mgk {k q : Nat} (h : q ≤ 9007199254740992) (h2 : k = 0 ∨ 4503599627370496 ≤ q) : mg (k * 4503599627370496 + q) = q * 2 ^ k := by
  unfold mg
  by_cases h3 : q < 4503599627370496
  · have : k = 0 := by omega
    subst this
    rw [if_pos (by omega)]; omega
  · rw [if_neg (by omega)]
    by_cases h4 : q = 9007199254740992
    · subst h4
      have e1 : (k * 4503599627370496 + 9007199254740992) % 4503599627370496 = 0 := by omega
      have e2 : (k * 4503599627370496 + 9007199254740992) / 4503599627370496 - 1 = k + 1 := by omega
      rw [e1, e2, Nat.pow_succ]; omega
    · have e1 : (k * 4503599627370496 + q) % 4503599627370496 = q - 4503599627370496 := by omega
      have e2 : (k * 4503599627370496 + q) / 4503599627370496 - 1 = k := by omega
      rw [e1, e2, show 4503599627370496 + (q - 4503599627370496) = q from by omega]

/-- The quotient that is kept lies within one binade. -/
theorem keep_bounds {v : Nat} (h : v ≠ 0) : v / 2 ^ (v.log2 - 52) < 9007199254740992 ∧ (v.log2 - 52 = 0 ∨ 4503599627370496 ≤ v / 2 ^ (v.log2 - 52)) := by
  have hp := Nat.two_pow_pos (v.log2 - 52)
  have a := Nat.log2_self_le h
  have b : v < 2 ^ (v.log2 + 1) := Nat.lt_log2_self
  by_cases c : v.log2 ≤ 52
  · have e : v.log2 - 52 = 0 := by omega
    refine ⟨?_, Or.inl e⟩
    rw [e]
    have : v < 2 ^ 53 := Nat.lt_of_lt_of_le b (Nat.pow_le_pow_right (by omega) (by omega))
    simp; omega
  · refine ⟨?_, Or.inr ?_⟩
    · rw [Nat.div_lt_iff_lt_mul hp]
      have e : v.log2 + 1 = 53 + (v.log2 - 52) := by omega
      rw [e, Nat.pow_add] at b
      exact b
    · rw [Nat.le_div_iff_mul_le hp]
      have e : v.log2 = 52 + (v.log2 - 52) := by omega
      rw [e, Nat.pow_add] at a
      exact a

theorem dn_spec {v : Nat} : mg (dn v) = v / 2 ^ (v.log2 - 52) * 2 ^ (v.log2 - 52) ∧ mg (dn v + 1) = (v / 2 ^ (v.log2 - 52) + 1) * 2 ^ (v.log2 - 52) := by
  by_cases h : v = 0
  · subst h; decide
  · obtain ⟨a, b⟩ := keep_bounds h
    unfold dn
    refine ⟨mgk (by omega) b, ?_⟩
    rw [Nat.add_assoc]
    exact mgk (by omega) (by omega)

theorem dn_le (v : Nat) : mg (dn v) ≤ v := by
  rw [dn_spec.1]; exact Nat.div_mul_le_self _ _

theorem lt_dn (v : Nat) : v < mg (dn v + 1) := by
  rw [dn_spec.2]; exact Nat.lt_mul_of_div_lt (Nat.lt_succ_self _) (Nat.two_pow_pos _)

theorem dn_unique {v r : Nat} (h1 : mg r ≤ v) (h2 : v < mg (r + 1)) : r = dn v := by
  have a := dn_le v; have b := lt_dn v
  have c := (@mg_lt r (dn v + 1)).1 (by omega)
  have d := (@mg_lt (dn v) (r + 1)).1 (by omega)
  omega

theorem dn_mg (r : Nat) : dn (mg r) = r := (dn_unique (Nat.le_refl _) (mg_succ r)).symm

theorem dn_lt {v r : Nat} (h : v < mg r) : dn v < r := mg_lt.1 (Nat.lt_of_le_of_lt (dn_le v) h)

theorem dn_mono {v u : Nat} (h : v ≤ u) : dn v ≤ dn u := by
  have a := dn_le v; have b := lt_dn u
  have := (@mg_lt (dn v) (dn u + 1)).1 (by omega)
  omega

theorem rr_or (v : Nat) : rr v = dn v ∨ (rr v = dn v + 1 ∧ mg (dn v) ≠ v) := by
  unfold rr
  by_cases h : v = 0
  · subst h; left; decide
  · rw [if_neg h]
    by_cases hm : more v (v.log2 - 52) = true
    · right
      refine ⟨by rw [hm]; rfl, ?_⟩
      intro e
      rw [dn_spec.1] at e
      have hz : v % 2 ^ (v.log2 - 52) = 0 := by have := Nat.div_add_mod v (2 ^ (v.log2 - 52)); rw [Nat.mul_comm] at this; omega
      have hp := Nat.two_pow_pos (v.log2 - 52)
      unfold more at hm
      rw [hz] at hm
      simp at hm
    · left
      rw [Bool.not_eq_true] at hm
      rw [hm, Bool.toNat_false, Nat.add_zero]

/-- What a double can be is hit exactly. -/
theorem rr_mg (r : Nat) : rr (mg r) = r := by
  rcases rr_or (mg r) with h | ⟨_, h⟩
  · rw [h, dn_mg]
  · rw [dn_mg] at h; exact absurd rfl h

theorem rr_le {v : Nat} (h : v < mg 9218868437227405312) : rr v ≤ 9218868437227405312 := by
  have := dn_lt h
  rcases rr_or v with e | ⟨e, _⟩ <;> omega

theorem toNat_more (v k : Nat) : (more v k).toNat = if more v k = true then 1 else 0 := by cases more v k <;> rfl

theorem cut_zero (neg : Bool) (n : Nat) : Ieee.Toward.even.cut neg n 0 = n := by
  unfold Ieee.Toward.cut
  simp [Nat.mod_one]

/-- 'nearest' is the nearest rung. -/
theorem nearest_eq (neg : Bool) (m p : Nat) : Ieee.double.nearest neg m (-1074 + (p : Int)) = Ieee.double.word neg (min (rr (m * 2 ^ p)) 9218868437227405312) := by
  have e2 : Ieee.double.binade = 4503599627370496 := by decide
  have e3 : Ieee.double.infRung = 9218868437227405312 := by decide
  have e4 : Ieee.double.leastPlace = -1074 := by decide
  have e5 : (Ieee.double.fractionBits : Int) = 52 := by decide
  unfold Ieee.Format.nearest
  by_cases h : m = 0
  · subst h
    rw [if_pos rfl, Nat.zero_mul]
    have : rr 0 = 0 := by decide
    rw [this]; simp
  · rw [if_neg h]
    simp only [e2, e3, e4, e5]
    have hp := Nat.two_pow_pos p
    have h1 : m * 2 ^ p ≠ 0 := by
      intro e; rcases Nat.mul_eq_zero.1 e with e | e <;> omega
    have hl := log2_mul m p h
    unfold rr dn
    rw [if_neg h1, hl]
    have ek : (max (-1074 + (p : Int) + (m.log2 : Int) - 52) (-1074) - -1074).toNat = m.log2 + p - 52 := by omega
    rw [ek]
    have key : ∀ a b : Nat, a = b → Ieee.double.word neg (min ((m.log2 + p - 52) * 4503599627370496 + a) 9218868437227405312) = Ieee.double.word neg (min ((m.log2 + p - 52) * 4503599627370496 + b) 9218868437227405312) := by
      intro a b e; rw [e]
    rw [Nat.add_assoc]
    refine key _ _ ?_
    clear key
    by_cases hk : m.log2 + p - 52 ≤ p
    · have d1 : (-1074 + (p : Int) - max (-1074 + (p : Int) + (m.log2 : Int) - 52) (-1074)).toNat = p - (m.log2 + p - 52) := by omega
      have d2 : (max (-1074 + (p : Int) + (m.log2 : Int) - 52) (-1074) - (-1074 + (p : Int))).toNat = 0 := by omega
      rw [d1, d2, cut_zero, Nat.shiftLeft_eq]
      generalize m.log2 + p - 52 = k at *
      have f : m * 2 ^ p = m * 2 ^ (p - k) * 2 ^ k := by rw [Nat.mul_assoc, ← Nat.pow_add]; congr 2; omega
      have hk0 := Nat.two_pow_pos k
      unfold more
      rw [f, Nat.mul_div_cancel _ hk0, Nat.mul_mod_left]
      simp
    · have d1 : (-1074 + (p : Int) - max (-1074 + (p : Int) + (m.log2 : Int) - 52) (-1074)).toNat = 0 := by omega
      have d2 : (max (-1074 + (p : Int) + (m.log2 : Int) - 52) (-1074) - (-1074 + (p : Int))).toNat = m.log2 + p - 52 - p := by omega
      rw [d1, d2]
      have hd : m.log2 + p - 52 - p ≤ m.log2 + 2 := by omega
      generalize hq : m.log2 + p - 52 = k at *
      unfold Ieee.Toward.cut
      simp only [Nat.shiftLeft_eq, Nat.pow_zero, Nat.mul_one, Nat.one_mul]
      rw [Nat.min_eq_left hd]
      have f : 2 ^ k = 2 ^ (k - p) * 2 ^ p := by rw [← Nat.pow_add]; congr 1; omega
      unfold more
      have g1 : m * 2 ^ p / 2 ^ k = m / 2 ^ (k - p) := by rw [f, Nat.mul_div_mul_right _ _ hp]
      have g2 : m * 2 ^ p % 2 ^ k = m % 2 ^ (k - p) * 2 ^ p := by rw [f, Nat.mul_mod_mul_right]
      rw [g1, g2, f]
      generalize m % 2 ^ (k - p) = y at *
      generalize 2 ^ (k - p) = x at *
      generalize 2 ^ p = z at *
      have c1 : decide (x * z < 2 * (y * z)) = decide (x < 2 * y) := by
        rw [← Nat.mul_assoc]; rw [decide_eq_decide]
        exact Nat.mul_lt_mul_right hp
      have c2 : (x * z == 2 * (y * z)) = (x == 2 * y) := by
        rw [← Nat.mul_assoc, Bool.eq_iff_iff, beq_iff_eq, beq_iff_eq]
        exact Nat.mul_left_inj (by omega)
      rw [c1, c2]

end Fl
end Go.Proofs.YtmebmfgmopdieaaGreatDoor
