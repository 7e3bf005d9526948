/- Plain facts on the order of spans. -/
import Derived.Test.YtmebmfgmopdieaaGreatDoorAxSp2
set_option linter.unusedSimpArgs false
set_option linter.unusedVariables false
namespace Go.Proofs.YtmebmfgmopdieaaGreatDoor
namespace Ax
open Fl

theorem over_swap (x0 x1 x2 x3 : Nat) : overB x2 x3 x0 x1 = overB x0 x1 x2 x3 := by
  unfold overB
  cases nan x0 <;> cases nan x1 <;> cases nan x2 <;> cases nan x3 <;> simp [Bool.and_comm]

theorem cmp_self (a : Int) : cmpI a a = 0 := by unfold cmpI; simp
theorem cmp_swap (a b : Int) : cmpI b a = -cmpI a b := by unfold cmpI; (repeat' split) <;> omega
theorem cmp_zero {a b : Int} : cmpI a b = 0 ↔ a = b := by unfold cmpI; (repeat' split) <;> omega
theorem cmp_vals (a b : Int) : cmpI a b = -1 ∨ cmpI a b = 0 ∨ cmpI a b = 1 := by unfold cmpI; (repeat' split) <;> omega
theorem cmp_lt {a b : Int} (h : a < b) : cmpI a b = -1 := by unfold cmpI; rw [if_pos h]

theorem ord_self (x0 x1 : Nat) : ordV x0 x1 x0 x1 = 0 := by unfold ordV; rw [cmp_self, cmp_self, if_pos rfl]
theorem ord_swap (x0 x1 x2 x3 : Nat) : ordV x2 x3 x0 x1 = -ordV x0 x1 x2 x3 := by
  unfold ordV
  rw [cmp_swap ((ky x0 : Nat) : Int), cmp_swap ((ky x1 : Nat) : Int)]
  by_cases c : cmpI ((ky x0 : Nat) : Int) ((ky x2 : Nat) : Int) = 0
  · rw [if_pos c, if_pos (by omega)]
  · rw [if_neg c, if_neg (by omega)]
theorem ord_vals (x0 x1 x2 x3 : Nat) : ordV x0 x1 x2 x3 = -1 ∨ ordV x0 x1 x2 x3 = 0 ∨ ordV x0 x1 x2 x3 = 1 := by
  unfold ordV; split <;> exact cmp_vals _ _
theorem ord_zero (x0 x1 x2 x3 : Nat) : ordV x0 x1 x2 x3 = 0 ↔ ky x0 = ky x2 ∧ ky x1 = ky x3 := by
  unfold ordV
  split
  · rename_i h; rw [cmp_zero] at h ⊢; omega
  · rename_i h
    constructor
    · intro k; exact absurd k h
    · rintro ⟨k, _⟩; exact absurd (by rw [cmp_zero, k]) h

/-- 'same' of the statements. -/
def smB (a b : Nat) : Bool := (nan a && nan b) || ((FloatKind.f64.format.order a b == some Ordering.eq) && (sg a == sg b))

theorem nan_iff {x : Nat} : nan x = true ↔ 9218868437227405312 < x % 9223372036854775808 := by unfold nan; simp

theorem sm_ky {a b : Nat} (ha : a < 18446744073709551616) (hb : b < 18446744073709551616) : smB a b = decide (ky a = ky b) := by
  unfold smB ky
  cases h1 : nan a <;> cases h2 : nan b
  · rw [eq_iff ha hb h1 h2]
    have n1 := mt (@nan_iff a).2 (by rw [h1]; decide)
    have n2 := mt (@nan_iff b).2 (by rw [h2]; decide)
    rw [vl_sg ha, vl_sg hb]
    unfold sg
    by_cases c1 : 9223372036854775808 ≤ a <;> by_cases c2 : 9223372036854775808 ≤ b <;> simp [c1, c2]
    · constructor
      · intro h
        have := mg_inj (r := a % 9223372036854775808) (s := b % 9223372036854775808) (by omega)
        omega
      · intro h; have : a = b := by omega
        rw [this]
    · omega
    · omega
    · constructor
      · intro h
        have := mg_inj (r := a % 9223372036854775808) (s := b % 9223372036854775808) (by omega)
        omega
      · intro h; have : a = b := by omega
        rw [this]
  · rw [f_nan ha hb (.inr h2)]
    have n1 := mt (@nan_iff a).2 (by rw [h1]; decide)
    have n2 := (@nan_iff b).1 h2
    simp; split <;> omega
  · rw [f_nan ha hb (.inl h1)]
    have n1 := mt (@nan_iff b).2 (by rw [h2]; decide)
    simp; split <;> omega
  · simp

theorem ky_lt_of {a b : Nat} (ha : a < 18446744073709551616) (hb : b < 18446744073709551616) (h : (FloatKind.f64.format.order a b == some Ordering.lt) = true) : ky a < ky b := by
  cases h1 : nan a
  · cases h2 : nan b
    · rw [lt_iff ha hb h1 h2] at h
      have hv := of_decide_eq_true h
      have n1 := mt (@nan_iff a).2 (by rw [h1]; decide)
      have n2 := mt (@nan_iff b).2 (by rw [h2]; decide)
      rw [vl_sg ha, vl_sg hb] at hv
      unfold ky
      rw [h1, h2]
      simp only [Bool.false_eq_true, if_false]
      unfold sg at hv
      by_cases c1 : 9223372036854775808 ≤ a <;> by_cases c2 : 9223372036854775808 ≤ b <;> simp [c1, c2] at hv ⊢
      · have := (@mg_lt (b % 9223372036854775808) (a % 9223372036854775808)).1 (by omega)
        omega
      · omega
      · omega
      · have := (@mg_lt (a % 9223372036854775808) (b % 9223372036854775808)).1 (by omega)
        omega
    · rw [f_nan ha hb (.inr h2)] at h; exact absurd h (by decide)
  · rw [f_nan ha hb (.inl h1)] at h; exact absurd h (by decide)

theorem ord_lt {x0 x1 x2 x3 : Nat} (ha : x0 < 18446744073709551616) (hb : x2 < 18446744073709551616) (h : (FloatKind.f64.format.order x0 x2 == some Ordering.lt) = true) : ordV x0 x1 x2 x3 = -1 := by
  have := ky_lt_of ha hb h
  unfold ordV
  rw [cmp_lt (by omega)]; rfl
end Ax
end Go.Proofs.YtmebmfgmopdieaaGreatDoor
