/- THE WALKS of math's small functions and of axes' functions on spans: IsNaN, Abs, IsInf, positive, Overlap, Order. -/
import Derived.Test.YtmebmfgmopdieaaGreatDoorAxLaw4
set_option linter.unusedSimpArgs false
set_option linter.unusedVariables false
set_option maxRecDepth 100000
namespace Go.Proofs.YtmebmfgmopdieaaGreatDoor
open Go.RowKit
namespace Ax
open Fl

theorem isNan_any (x : Nat) (w : World) (hx : x < 18446744073709551616) : Calls Tryz.prog 52 #[.float .f64 x] w fun r w' => r = .returned (.bool (nan x)) ∧ w = w' := by
  have hne := ne_self hx
  clear hx
  go_enter Tryz.func52, Tryz.ntmps52
  go_wp2
  go_ret
  exact ⟨rfl, rfl⟩

theorem andNot_mod {x : Nat} (hx : x < 18446744073709551616) : bits .andNot .u64 (x : Int) 9223372036854775808 = ((x % 9223372036854775808 : Nat) : Int) := by
  have h := u64_andNot_nat x 9223372036854775808 hx (by omega)
  rw [show ((9223372036854775808 : Nat) : Int) = (9223372036854775808 : Int) from rfl] at h
  have e : 18446744073709551615 - 9223372036854775808 = 2 ^ 63 - 1 := by decide
  rw [h, e, Nat.and_two_pow_sub_one_eq_mod]

theorem abs_any (x : Nat) (w : World) (hx : x < 18446744073709551616) : Calls Tryz.prog 24 #[.float .f64 x] w fun r w' => r = .returned (.float .f64 (x % 9223372036854775808)) ∧ w = w' := by
  have h := andNot_mod hx
  obtain ⟨y, hy⟩ : ∃ y, y = x % 9223372036854775808 := ⟨_, rfl⟩
  rw [← hy] at h ⊢
  clear hy
  go_enter Tryz.func24, Tryz.ntmps24
  go_wp2
  go_ret
  exact ⟨rf (by simp), rfl⟩

theorem gt_max {x : Nat} (hx : x < 18446744073709551616) : (FloatKind.f64.format.order x 9218868437227405311 == some Ordering.gt) = decide (x = 9218868437227405312) := by
  cases hn : nan x
  · rw [gt_iff hx (by decide) hn (by decide)]
    have e : vl 9218868437227405311 = (mg 9218868437227405311 : Int) := by rw [vl_sg (by decide), show sg 9218868437227405311 = false by decide]; rfl
    rw [e, vl_sg hx]
    unfold nan at hn
    have hn' : x % 9223372036854775808 ≤ 9218868437227405312 := by simpa using hn
    by_cases c : x = 9218868437227405312
    · subst c
      have := (@mg_lt 9218868437227405311 9218868437227405312).2 (by omega)
      simp [sg]
      exact this
    · rw [decide_eq_false c, decide_eq_false_iff_not]
      cases hs : sg x
      · simp
        have h1 : x < 9223372036854775808 := by unfold sg at hs; simpa using hs
        have := (@mg_le (x % 9223372036854775808) 9218868437227405311).2 (by omega)
        omega
      · simp
  · rw [f_nan hx (by decide) (.inl hn)]
    have c : x ≠ 9218868437227405312 := by rintro rfl; exact absurd hn (by decide)
    rw [decide_eq_false c]; rfl

theorem isInf0_any (x : Nat) (w : World) (hx : x < 18446744073709551616) : Calls Tryz.prog 22 #[.float .f64 x, .int .i64 0] w fun r w' => r = .returned (.bool (decide (x % 9223372036854775808 = 9218868437227405312))) ∧ w = w' := by
  have h := gt_max (x := x % 9223372036854775808) (by omega)
  have HA := Lib.hid (fun w => abs_any x w hx)
  clear hx
  go_enter Tryz.func22, Tryz.ntmps22
  go_wp2_with (go_at_call 24; refine (HA.out _).mono ?_; rintro _ w' ⟨rfl, rfl⟩)
  go_ret
  exact ⟨rfl, rfl⟩
theorem isInfP_any (x : Nat) (w : World) (hx : x < 18446744073709551616) : Calls Tryz.prog 22 #[.float .f64 x, .int .i64 1] w fun r w' => r = .returned (.bool (decide (x = 9218868437227405312))) ∧ w = w' := by
  have h := gt_max hx
  clear hx
  go_enter Tryz.func22, Tryz.ntmps22
  go_wp2
  go_ret
  exact ⟨rfl, rfl⟩
theorem isInfN_any (x : Nat) (w : World) (hx : x < 18446744073709551616) : Calls Tryz.prog 22 #[.float .f64 x, .int .i64 (-1)] w fun r w' => r = .returned (.bool (decide (x = 18442240474082181120))) ∧ w = w' := by
  have h := gt_max (negW_lt hx)
  have e : (negW x = 9218868437227405312) ↔ x = 18442240474082181120 := by rw [negW_eq hx]; split <;> omega
  have E := Lib.hid e
  clear hx e
  go_enter Tryz.func22, Tryz.ntmps22
  go_wp2
  go_ret
  exact ⟨rb (decide_eq_decide.2 E.out), rfl⟩

def posW (r : Nat) : Nat := if r % 9223372036854775808 = 0 then 0 else r

theorem eq_zero {x : Nat} (hx : x < 18446744073709551616) : (FloatKind.f64.format.order x 0 == some Ordering.eq) = decide (x % 9223372036854775808 = 0) := by
  cases hn : nan x
  · rw [eq_iff hx (by decide) hn (by decide)]
    have e : vl 0 = 0 := by decide +kernel
    rw [e, vl_sg hx]
    by_cases c : x % 9223372036854775808 = 0
    · rw [c, mg_zero]; simp
    · have := (@mg_lt 0 (x % 9223372036854775808)).2 (by omega)
      rw [mg_zero] at this
      rw [decide_eq_false c, decide_eq_false_iff_not]
      split <;> omega
  · rw [f_nan hx (by decide) (.inl hn)]
    unfold nan at hn
    have hn' : 9218868437227405312 < x % 9223372036854775808 := by simpa using hn
    rw [decide_eq_false (by omega)]; rfl

theorem pos_any (x : Nat) (w : World) (hx : x < 18446744073709551616) : Calls Tryz.prog 45 #[.float .f64 x] w fun r w' => r = .returned (.float .f64 (posW x)) ∧ w = w' := by
  have h := eq_zero hx
  clear hx
  by_cases c : x % 9223372036854775808 = 0
  · rw [decide_eq_true c] at h
    have e : posW x = 0 := by unfold posW; rw [if_pos c]
    have E := Lib.hid e
    clear c e
    go_enter Tryz.func45, Tryz.ntmps45
    go_wp2
    go_ret
    exact ⟨rf E.out.symm, rfl⟩
  · rw [decide_eq_false c] at h
    have e : posW x = x := by unfold posW; rw [if_neg c]
    have E := Lib.hid e
    clear c e
    go_enter Tryz.func45, Tryz.ntmps45
    go_wp2
    go_ret
    exact ⟨rf E.out.symm, rfl⟩
end Ax
end Go.Proofs.YtmebmfgmopdieaaGreatDoor
