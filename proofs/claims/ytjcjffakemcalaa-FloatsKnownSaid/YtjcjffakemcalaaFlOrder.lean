/- THE WALK of FloatsOrder: it returns true, and changes nothing but the count of draws. -/
import Derived.Test.YtjcjffakemcalaaFlLives
set_option linter.unusedSimpArgs false
set_option linter.unusedVariables false
namespace Go.Proofs.Ytjcjffakemcalaa
open Go.RowKit
namespace Fl

theorem cmpI_self (a : Int) : cmpI a a = 0 := by unfold cmpI; simp
theorem cmpI_swap (a b : Int) : cmpI b a = -cmpI a b := by unfold cmpI; (repeat' split) <;> omega
theorem cmpI_zero {a b : Int} : cmpI a b = 0 ↔ a = b := by unfold cmpI; (repeat' split) <;> omega
theorem cmpI_bound (a b : Int) : -1 ≤ cmpI a b ∧ cmpI a b ≤ 1 := by unfold cmpI; (repeat' split) <;> omega

theorem nan_iff {x : Nat} : nan x = true ↔ 9218868437227405312 < x % 9223372036854775808 := by unfold nan; simp

theorem ky_inj {a b : Nat} (ha : a < 18446744073709551616) (hb : b < 18446744073709551616) : ky a = ky b ↔ sameB a b = true := by
  unfold sameB ky
  have na := @nan_iff a
  have nb := @nan_iff b
  cases h1 : nan a <;> cases h2 : nan b <;> rw [h1] at na <;> rw [h2] at nb <;> simp at na nb ⊢ <;> ((repeat' split) <;> omega)

theorem cls_eq {x : Nat} (h : nan x = false) : cls x = if x = 9218868437227405312 then 5 else if x = 18442240474082181120 then 0 else if x = 0 then 3 else if x = 9223372036854775808 then 2 else if 9223372036854775808 ≤ x then 1 else 4 := by
  unfold cls; rw [h]; rfl

theorem vl_pos {x : Nat} (h : x < 9223372036854775808) : vl x = (mg x : Int) := by unfold vl; rw [if_pos h]
theorem vl_neg {x : Nat} (h : 9223372036854775808 ≤ x) : vl x = -(mg (x - 9223372036854775808) : Int) := by unfold vl; rw [if_neg (by omega)]

theorem rord_eq {a b : Nat} (ha : a < 18446744073709551616) (hb : b < 18446744073709551616) : cmpI ((ky a : Nat) : Int) ((ky b : Nat) : Int) = rord a b := by
  unfold rord
  have na := @nan_iff a
  have nb := @nan_iff b
  cases h1 : nan a
  · rw [h1] at na
    simp at na
    have k1 : ky a = if 9223372036854775808 ≤ a then 18446744073709551615 - a else a + 9223372036854775808 := by unfold ky; rw [h1]; rfl
    cases h2 : nan b
    · rw [h2] at nb
      simp at nb
      have k2 : ky b = if 9223372036854775808 ≤ b then 18446744073709551615 - b else b + 9223372036854775808 := by unfold ky; rw [h2]; rfl
      have c1 := cls_eq h1
      have c2 := cls_eq h2
      have hl := lt_iff ha hb h1 h2
      have hg := gt_iff ha hb h1 h2
      unfold fLt fGt
      rw [hl, hg]
      by_cases hc : cls a = cls b
      · rw [if_neg (by simp [hc])]
        have m1 := @mg_lt a b
        have m2 := @mg_lt b a
        have m3 := @mg_lt (a - 9223372036854775808) (b - 9223372036854775808)
        have m4 := @mg_lt (b - 9223372036854775808) (a - 9223372036854775808)
        by_cases s1 : 9223372036854775808 ≤ a
        · by_cases s2 : 9223372036854775808 ≤ b
          · rw [vl_neg s1, vl_neg s2]
            rw [if_pos s1] at k1
            rw [if_pos s2] at k2
            unfold cmpI
            simp only [decide_eq_true_eq]
            (repeat' split) <;> omega
          · exfalso
            rw [c1, c2] at hc
            revert hc
            (repeat' split) <;> omega
        · by_cases s2 : 9223372036854775808 ≤ b
          · exfalso
            rw [c1, c2] at hc
            revert hc
            (repeat' split) <;> omega
          · rw [vl_pos (by omega), vl_pos (by omega)]
            rw [if_neg s1] at k1
            rw [if_neg s2] at k2
            unfold cmpI
            simp only [decide_eq_true_eq]
            (repeat' split) <;> omega
      · rw [if_pos (by simp [hc])]
        unfold cmpI
        have : cls a < cls b ↔ ky a < ky b := by
          rw [c1, c2] at hc ⊢
          rw [k1, k2]
          revert hc
          (repeat' split) <;> omega
        have h3 : ky a ≠ ky b := by
          intro e
          rw [c1, c2] at hc
          rw [k1, k2] at e
          revert hc e
          (repeat' split) <;> omega
        by_cases q : cls a < cls b
        · rw [if_pos q, if_pos (by have := this.1 q; omega)]
        · rw [if_neg q, if_neg (by intro e; exact q (this.2 (by omega))), if_pos (by have : ¬ ky a < ky b := fun e => q (this.2 e); omega)]
    · have k2 : ky b = 18446744073709551615 := by unfold ky; rw [h2]; rfl
      have c2 : cls b = 6 := by unfold cls; rw [h2]; rfl
      have c1 := cls_eq h1
      have hc : cls a < 6 := by rw [c1]; (repeat' split) <;> omega
      rw [c2, if_pos (by simp; omega), if_pos hc]
      symm
      rw [cmpI_lt (a := (ky a : Int)) (b := (ky b : Int)) (by rw [k1, k2]; split <;> omega)]
  · have k1 : ky a = 18446744073709551615 := by unfold ky; rw [h1]; rfl
    have c1 : cls a = 6 := by unfold cls; rw [h1]; rfl
    cases h2 : nan b
    · rw [h2] at nb
      simp at nb
      have k2 : ky b = if 9223372036854775808 ≤ b then 18446744073709551615 - b else b + 9223372036854775808 := by unfold ky; rw [h2]; rfl
      have c2 := cls_eq h2
      have hc : cls b < 6 := by rw [c2]; (repeat' split) <;> omega
      rw [c1, if_pos (by simp; omega), if_neg (by omega)]
      symm
      rw [cmpI_gt (a := (ky a : Int)) (b := (ky b : Int)) (by rw [k1, k2]; split <;> omega)]
    · have k2 : ky b = 18446744073709551615 := by unfold ky; rw [h2]; rfl
      have c2 : cls b = 6 := by unfold cls; rw [h2]; rfl
      rw [k1, k2, c1, c2, cmpI_self]
      unfold fLt fGt
      rw [f_nan ha hb (Or.inl h1)]
      decide

set_option maxHeartbeats 400000 in
theorem lawOrder (a b c : Nat) (w : World) (ha : a < 18446744073709551616) (hb : b < 18446744073709551616) (hc : c < 18446744073709551616) :
    Calls Try.prog 3 #[.float .f64 a, .float .f64 b, .float .f64 c] w (DrewB w true) := by
  have HL := Lib.hid lives_any
  have HS := Lib.hid (fun w => same_any a b w ha hb)
  have HR := Lib.hid (fun w => rorder_any a b w ha hb)
  have hab := fun w => order_any a b w ha hb
  have hba := fun w => order_any b a w hb ha
  have haa := fun w => order_any a a w ha ha
  have hbc := fun w => order_any b c w hb hc
  have hac := fun w => order_any a c w ha hc
  have p1 := rord_eq ha hb
  have p2 := cmpI_swap ((ky a : Nat) : Int) ((ky b : Nat) : Int)
  have p3 : (cmpI ((ky a : Nat) : Int) ((ky b : Nat) : Int) = 0) ↔ sameB a b = true := by rw [cmpI_zero, ← ky_inj ha hb]; omega
  have p4 := cmpI_self ((ky a : Nat) : Int)
  have p5 : cmpI ((ky a : Nat) : Int) ((ky b : Nat) : Int) ≤ 0 → cmpI ((ky b : Nat) : Int) ((ky c : Nat) : Int) ≤ 0 → cmpI ((ky a : Nat) : Int) ((ky c : Nat) : Int) ≤ 0 := by
    unfold cmpI; (repeat' split) <;> omega
  have p6 := cmpI_bound ((ky a : Nat) : Int) ((ky b : Nat) : Int)
  generalize cmpI ((ky a : Nat) : Int) ((ky b : Nat) : Int) = x1 at *
  generalize cmpI ((ky b : Nat) : Int) ((ky a : Nat) : Int) = x2 at *
  generalize cmpI ((ky a : Nat) : Int) ((ky a : Nat) : Int) = x3 at *
  generalize cmpI ((ky b : Nat) : Int) ((ky c : Nat) : Int) = x4 at *
  generalize cmpI ((ky a : Nat) : Int) ((ky c : Nat) : Int) = x5 at *
  generalize rord a b = x6 at *
  generalize sameB a b = sb at *
  subst p1 p2 p4
  have b1 : -1 ≤ x1 := p6.1
  have b2 : x1 ≤ 1 := p6.2
  have q3 : sb = (x1 == 0) := by
    rw [Bool.eq_iff_iff, beq_iff_eq]; exact p3.symm
  subst q3
  have q1 : (-x1 != -x1) = false := by simp
  clear p6 p3
  have HAB := Lib.hid hab; have HBA := Lib.hid hba; have HAA := Lib.hid haa; have HBC := Lib.hid hbc; have HAC := Lib.hid hac
  clear hab hba haa hbc hac ha hb hc
  by_cases c1 : 0 < x1
  · clear p5
    go_enter Try.func3, Try.ntmps3
    go_wp2_with (first
      | (go_at_call 8; ((with_reducible refine (HAB.out _).mono ?_); rintro e w' ⟨rfl, rfl⟩))
      | (go_at_call 8; ((with_reducible refine (HBA.out _).mono ?_); rintro e w' ⟨rfl, rfl⟩))
      | (go_at_call 8; ((with_reducible refine (HAA.out _).mono ?_); rintro e w' ⟨rfl, rfl⟩))
      | (go_at_call 9; ((with_reducible refine (HR.out _).mono ?_); rintro e w' ⟨rfl, rfl⟩))
      | (go_at_call 10; ((with_reducible refine (HS.out _).mono ?_); rintro e w' ⟨rfl, rfl⟩))
      | (go_at_call 11; ((with_reducible refine (HL.out _).mono ?_); rintro e w' ⟨n, rfl, rfl⟩)))
    go_ret
    exact ⟨_, rfl, rfl⟩
  · have c1' : x1 ≤ 0 := by omega
    by_cases c2 : 0 < x4
    · clear p5
      go_enter Try.func3, Try.ntmps3
      go_wp2_with (first
        | (go_at_call 8; ((with_reducible refine (HAB.out _).mono ?_); rintro e w' ⟨rfl, rfl⟩))
        | (go_at_call 8; ((with_reducible refine (HBA.out _).mono ?_); rintro e w' ⟨rfl, rfl⟩))
        | (go_at_call 8; ((with_reducible refine (HAA.out _).mono ?_); rintro e w' ⟨rfl, rfl⟩))
        | (go_at_call 8; ((with_reducible refine (HBC.out _).mono ?_); rintro e w' ⟨rfl, rfl⟩))
        | (go_at_call 9; ((with_reducible refine (HR.out _).mono ?_); rintro e w' ⟨rfl, rfl⟩))
        | (go_at_call 10; ((with_reducible refine (HS.out _).mono ?_); rintro e w' ⟨rfl, rfl⟩))
        | (go_at_call 11; ((with_reducible refine (HL.out _).mono ?_); rintro e w' ⟨n, rfl, rfl⟩)))
      go_ret
      exact ⟨_, rfl, rfl⟩
    · have c2' : x4 ≤ 0 := by omega
      have c3 := p5 c1' c2'
      clear p5
      go_enter Try.func3, Try.ntmps3
      go_wp2_with (first
        | (go_at_call 8; ((with_reducible refine (HAB.out _).mono ?_); rintro e w' ⟨rfl, rfl⟩))
        | (go_at_call 8; ((with_reducible refine (HBA.out _).mono ?_); rintro e w' ⟨rfl, rfl⟩))
        | (go_at_call 8; ((with_reducible refine (HAA.out _).mono ?_); rintro e w' ⟨rfl, rfl⟩))
        | (go_at_call 8; ((with_reducible refine (HBC.out _).mono ?_); rintro e w' ⟨rfl, rfl⟩))
        | (go_at_call 8; ((with_reducible refine (HAC.out _).mono ?_); rintro e w' ⟨rfl, rfl⟩))
        | (go_at_call 9; ((with_reducible refine (HR.out _).mono ?_); rintro e w' ⟨rfl, rfl⟩))
        | (go_at_call 10; ((with_reducible refine (HS.out _).mono ?_); rintro e w' ⟨rfl, rfl⟩))
        | (go_at_call 11; ((with_reducible refine (HL.out _).mono ?_); rintro e w' ⟨n, rfl, rfl⟩)))
      go_ret
      exact ⟨_, rfl, rfl⟩
end Fl
end Go.Proofs.Ytjcjffakemcalaa
