/- Halvings of whole numbers, as plain facts. -/
import Derived.Test.YtmebmfgmopdieaaGreatDoorAxNum
import Derived.Test.YtmebmfgmopdieaaGreatDoorFlDown
set_option linter.unusedSimpArgs false
set_option linter.unusedVariables false
set_option maxRecDepth 100000
namespace Go.Proofs.YtmebmfgmopdieaaGreatDoor
open Go.RowKit
namespace Fl

theorem vi {k : IntKind} {a b : Int} (h : a = b) : Value.int k a = Value.int k b := by rw [h]
theorem vb {a b : Bool} (h : a = b) : Value.bool a = Value.bool b := by rw [h]

theorem rep_int {c : Nat} (h : c ≤ 9007199254740992) : mg (dn (c * U)) = c * U := by
  by_cases c1 : c < 9007199254740992
  · exact mg_dn_int c1
  · have e : mg (E * 4503599627370496 + c) = c * U := by rw [mgk h (Or.inr (by omega)), U_pow]
    rw [← e, dn_mg]

/-- 'float64(c)' of a small c. -/
theorem float_small {c : Nat} (h : c ≤ 9007199254740992) : floatOfInt .f64 (c : Int) = dn (c * U) := by
  rw [floatOfInt_eq (by omega), Int.natAbs_natCast]
  have hw : ∀ r, wd false r = r := fun r => by unfold wd; simp
  rw [decide_eq_false (by omega), hw]
  have := rr_mg (dn (c * U))
  rw [rep_int h] at this
  exact this

/-- The state of the first loop: k halvings. -/
def lostB (m k : Nat) : Bool := m % 2 ^ k != 0

theorem lost_succ (m k : Nat) : lostB m (k + 1) = (lostB m k || (m / 2 ^ k % 2 == 1)) := by
  unfold lostB
  have e : m % 2 ^ (k + 1) = m % 2 ^ k + 2 ^ k * (m / 2 ^ k % 2) := Nat.mod_pow_succ
  have hp := Nat.two_pow_pos k
  rw [e]
  rcases Nat.mod_two_eq_zero_or_one (m / 2 ^ k) with h | h
  · rw [h]; simp
  · rw [h, Nat.mul_one, Bool.eq_iff_iff]
    simp

/-- What the reference's near gives. -/
def rnearW (m : Nat) (up : Bool) : Nat := if up then upr (m * U) else dn (m * U)

theorem near_end {m k : Nat} (h1 : m / 2 ^ k < 9007199254740992) (h2 : k = 0 ∨ 4503599627370496 ≤ m / 2 ^ k) :
    mg (dn (m * U)) = m / 2 ^ k * 2 ^ k * U ∧ (lostB m k = true → mg (dn (m * U) + 1) = (m / 2 ^ k + 1) * 2 ^ k * U) ∧ (mg (dn (m * U)) = m * U ↔ lostB m k = false) := by
  have hp := Nat.two_pow_pos k
  have hdm := Nat.div_add_mod m (2 ^ k)
  rw [Nat.mul_comm] at hdm
  have key : dn (m * U) = if k = 0 then dn (m * U) else (k + E) * 4503599627370496 + m / 2 ^ k := by
    by_cases hk : k = 0
    · rw [if_pos hk]
    · rw [if_neg hk]
      symm
      have hq : 4503599627370496 ≤ m / 2 ^ k := by omega
      refine dn_unique ?_ ?_
      · rw [mgk (by omega) (Or.inr hq), Nat.pow_add, ← U_pow, ← Nat.mul_assoc]
        exact Nat.mul_le_mul_right _ (by omega)
      · rw [Nat.add_assoc, mgk (by omega) (Or.inr (by omega)), Nat.pow_add, ← U_pow, ← Nat.mul_assoc]
        refine Nat.mul_lt_mul_of_pos_right ?_ U_pos
        have := Nat.mod_lt m hp
        rw [Nat.add_mul]; omega
  by_cases hk : k = 0
  · subst hk
    simp only [Nat.pow_zero, Nat.div_one, Nat.mul_one] at h1 ⊢
    have hr := rep_int (c := m) (by omega)
    refine ⟨hr, ?_, ?_⟩
    · unfold lostB; simp [Nat.mod_one]
    · unfold lostB; simp [Nat.mod_one, hr]
  · rw [if_neg hk] at key
    have hq : 4503599627370496 ≤ m / 2 ^ k := by omega
    have e1 : mg (dn (m * U)) = m / 2 ^ k * 2 ^ k * U := by
      rw [key, mgk (by omega) (Or.inr hq), Nat.pow_add, ← U_pow, ← Nat.mul_assoc]
    refine ⟨e1, ?_, ?_⟩
    · intro _
      rw [key, Nat.add_assoc, mgk (by omega) (Or.inr (by omega)), Nat.pow_add, ← U_pow, ← Nat.mul_assoc]
    · rw [e1]
      unfold lostB
      constructor
      · intro h
        have := Nat.eq_of_mul_eq_mul_right U_pos h
        simp; omega
      · intro h
        simp at h
        rw [show m / 2 ^ k * 2 ^ k = m by omega]

theorem half_facts {m k : Nat} (hm : m < 18446744073709551616) (hk : k = 0 ∨ 9007199254740992 ≤ m / 2 ^ (k - 1)) : k ≤ 11 := by
  rcases hk with h | h
  · omega
  · by_cases c : k ≤ 11
    · exact c
    · exfalso
      have h1 : 2 ^ 11 ≤ 2 ^ (k - 1) := Nat.pow_le_pow_right (by omega) (by omega)
      have h2 : m / 2 ^ (k - 1) ≤ m / 2 ^ 11 := Nat.div_le_div_left h1 (by omega)
      omega

theorem add_run (r : Nat) (h : 2 * mg r < mg 9218868437227405312) (w : World) :
    (binOp .add 27 (.float .f64 r) (.float .f64 r)).run Tryz.prog w = .ok (.float .f64 (dn (2 * mg r))) w :=
  run_float_arith w .add 27 .f64 r r _ (add_self h).1

def Half (m k : Nat) : Prop := k = 0 ∨ 9007199254740992 ≤ m / 2 ^ (k - 1)

theorem half_succ {m k : Nat} (h : 9007199254740992 ≤ m / 2 ^ k) : Half m (k + 1) := Or.inr (by simpa using h)

theorem rnear_tail {m k c : Nat} {up : Bool} (hm : m < 18446744073709551616) (hk : Half m k) (h1 : m / 2 ^ k < 9007199254740992) (hc : c = if lostB m k && up then m / 2 ^ k + 1 else m / 2 ^ k) {r : Nat} (hr : mg r = c * 2 ^ k * U) : r = rnearW m up := by
  have h2 : k = 0 ∨ 4503599627370496 ≤ m / 2 ^ k := by
    rcases hk with h | h
    · exact Or.inl h
    · by_cases hz : k = 0
      · exact Or.inl hz
      · right
        have e : m / 2 ^ k = m / 2 ^ (k - 1) / 2 := by
          rw [Nat.div_div_eq_div_mul, ← Nat.pow_succ]; congr 2; omega
        omega
  obtain ⟨e1, e2, e3⟩ := near_end h1 h2
  unfold rnearW
  cases up
  · simp at hc; subst hc
    simp only [Bool.false_eq_true, if_false]
    exact mg_inj (by rw [hr, e1])
  · simp only [if_true]
    unfold upr
    cases hl : lostB m k
    · rw [hl] at hc; simp at hc; subst hc
      rw [if_pos (e3.2 hl)]
      exact mg_inj (by rw [hr, e1])
    · rw [hl] at hc; simp at hc; subst hc
      rw [if_neg (by rw [e3, hl]; decide)]
      exact mg_inj (by rw [hr, e2 hl])

theorem dbl_eq (c j : Nat) : 2 * (c * 2 ^ j * U) = c * 2 ^ (j + 1) * U := by
  rw [Nat.pow_succ]; generalize 2 ^ j = p; generalize U = u; ac_rfl

set_option maxHeartbeats 400000 in
theorem upr_le {n : Int} (l0 : -9223372036854775808 ≤ n) (l1 : n < 9223372036854775808) : upr (n.natAbs * U) < 9218868437227405312 := by
  have h1 : 36893488147419103232 * U < mg 9218868437227405311 := by decide +kernel
  have h2 : n.natAbs * U ≤ 9223372036854775808 * U := Nat.mul_le_mul_right _ (by omega)
  have := @dn_lt (n.natAbs * U) 9218868437227405311 (by omega)
  unfold upr; split <;> omega

theorem dn_le_inf {n : Int} (l0 : -9223372036854775808 ≤ n) (l1 : n < 9223372036854775808) : dn (n.natAbs * U) < 9218868437227405312 := by
  have h := upr_le l0 l1
  unfold upr at h; split at h <;> omega

theorem negW_wd {r : Nat} (h : r ≤ 9218868437227405312) : negW r = wd true r := by
  rw [negW_eq (by omega), if_neg (by omega)]; rfl

end Fl
end Go.Proofs.YtmebmfgmopdieaaGreatDoor
