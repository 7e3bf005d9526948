/- THE WALK of axes.Middle at NaN; halves and sums of infinities; the statements' same. -/
import Derived.Test.YtmebmfgmopdieaaGreatDoorAxSp2
set_option linter.unusedSimpArgs false
set_option linter.unusedVariables false
set_option maxRecDepth 100000
namespace Go.Proofs.YtmebmfgmopdieaaGreatDoor
open Go.RowKit
namespace Ax
open Fl

theorem inf_cases {x : Nat} (hx : x < 18446744073709551616) (hn : nan x = false) : fin x = true ∨ x = 9218868437227405312 ∨ x = 18442240474082181120 := by
  unfold nan at hn
  have hn' : x % 9223372036854775808 ≤ 9218868437227405312 := by simpa using hn
  by_cases c : x % 9223372036854775808 = 9218868437227405312
  · right; omega
  · left; unfold fin; rw [decide_eq_true_eq]; omega

theorem half_inf : floatBits .quo .f64 9218868437227405312 4611686018427387904 = some 9218868437227405312 ∧ floatBits .quo .f64 18442240474082181120 4611686018427387904 = some 18442240474082181120 := by decide +kernel

theorem half_some {x : Nat} (hx : x < 18446744073709551616) (hn : nan x = false) : ∃ p, floatBits .quo .f64 x 4611686018427387904 = some p ∧ p < 18446744073709551616 ∧ (fin x = true → fin p = true ∧ (9007199254740992 ≤ x % 9223372036854775808 → 2 * vl p = vl x)) ∧ (x = 9218868437227405312 → p = x) ∧ (x = 18442240474082181120 → p = x) := by
  rcases inf_cases hx hn with h | rfl | rfl
  · obtain ⟨p, h1, h2, h3, h4⟩ := half_ok hx h
    refine ⟨p, h1, h2, fun _ => ⟨h3, h4⟩, ?_, ?_⟩ <;> (rintro rfl; exact absurd h (by decide))
  · exact ⟨_, half_inf.1, by decide, fun h => absurd h (by decide), fun _ => rfl, fun h => absurd h (by decide)⟩
  · exact ⟨_, half_inf.2, by decide, fun h => absurd h (by decide), fun h => absurd h (by decide), fun _ => rfl⟩

theorem nan_two : nan 4611686018427387904 = false := by decide

set_option maxHeartbeats 1000000 in
theorem mid_nan (x y : Nat) (e : Bool) (w : World) (hx : x < 18446744073709551616) (hy : y < 18446744073709551616) (hn : nan x = true ∨ nan y = true) :
    Calls Tryz.prog 19 #[sv x y e] w fun r w' => (∃ z, z < 18446744073709551616 ∧ nan z = true ∧ r = .returned (.float .f64 z)) ∧ Below w.heap.size w w' := by
  have HXP := fun w => isInfP_any x w hx
  have HXN := fun w => isInfN_any x w hx
  have HYP := fun w => isInfP_any y w hy
  have HYN := fun w => isInfN_any y w hy
  obtain ⟨a, ha⟩ : ∃ a, a = decide (x = 9218868437227405312) := ⟨_, rfl⟩
  obtain ⟨b, hb⟩ : ∃ a, a = decide (x = 18442240474082181120) := ⟨_, rfl⟩
  obtain ⟨c, hc⟩ : ∃ a, a = decide (y = 9218868437227405312) := ⟨_, rfl⟩
  obtain ⟨d, hd⟩ : ∃ a, a = decide (y = 18442240474082181120) := ⟨_, rfl⟩
  rw [← ha] at HXP; rw [← hb] at HXN; rw [← hc] at HYP; rw [← hd] at HYN
  have hno : (a = false ∧ b = false) ∨ (c = false ∧ d = false) := by
    rcases hn with h | h
    · left; rw [ha, hb]
      constructor <;> (rw [decide_eq_false_iff_not]; rintro rfl; exact absurd h (by decide))
    · right; rw [hc, hd]
      constructor <;> (rw [decide_eq_false_iff_not]; rintro rfl; exact absurd h (by decide))
  replace HXP := Lib.hid HXP; replace HXN := Lib.hid HXN; replace HYP := Lib.hid HYP; replace HYN := Lib.hid HYN
  clear ha hb hc hd
  have two_lt : (4611686018427387904 : Nat) < 18446744073709551616 := by decide
  -- what the three operations give, one behind the other
  have H3 : ∀ W : World, ∃ p W1 q W2 z W3, (binOp .quo 27 (.float .f64 x) (.float .f64 4611686018427387904)).run Tryz.prog W = .ok (.float .f64 p) W1 ∧ (binOp .quo 27 (.float .f64 y) (.float .f64 4611686018427387904)).run Tryz.prog W1 = .ok (.float .f64 q) W2 ∧ (binOp .add 27 (.float .f64 p) (.float .f64 q)).run Tryz.prog W2 = .ok (.float .f64 z) W3 ∧ z < 18446744073709551616 ∧ nan z = true ∧ (∀ v : World, Below v.heap.size v W → Below v.heap.size v W3) ∧ (∀ a, W1.cell? a = W.cell? a) := by
    intro W
    have A : ∃ p W1, (binOp .quo 27 (.float .f64 x) (.float .f64 4611686018427387904)).run Tryz.prog W = .ok (.float .f64 p) W1 ∧ p < 18446744073709551616 ∧ (nan x = true → nan p = true) ∧ (∀ v : World, Below v.heap.size v W → Below v.heap.size v W1) ∧ (∀ a, W1.cell? a = W.cell? a) := by
      cases h : nan x
      · obtain ⟨p, p1, p2, -⟩ := half_some hx h
        exact ⟨p, W, run_float_arith W .quo 27 .f64 x _ p p1, p2, (fun k => Bool.noConfusion k), (fun v hv => hv), fun _ => rfl⟩
      · obtain ⟨z, z1, z2, z3⟩ := run_none (op := .quo) (.inr (.inr rfl)) (sum_nan hx two_lt (.inl h)).2.2 W
        exact ⟨z, _, z3, z1, fun _ => z2, (fun v hv => hv.drew), fun _ => rfl⟩
    obtain ⟨p, W1, a1, a2, a3, a4, a5⟩ := A
    have B : ∃ q W2, (binOp .quo 27 (.float .f64 y) (.float .f64 4611686018427387904)).run Tryz.prog W1 = .ok (.float .f64 q) W2 ∧ q < 18446744073709551616 ∧ (nan y = true → nan q = true) ∧ (∀ v : World, Below v.heap.size v W1 → Below v.heap.size v W2) := by
      cases h : nan y
      · obtain ⟨p, p1, p2, -⟩ := half_some hy h
        exact ⟨p, W1, run_float_arith W1 .quo 27 .f64 y _ p p1, p2, (fun k => Bool.noConfusion k), fun v hv => hv⟩
      · obtain ⟨z, z1, z2, z3⟩ := run_none (op := .quo) (.inr (.inr rfl)) (sum_nan hy two_lt (.inl h)).2.2 W1
        exact ⟨z, _, z3, z1, fun _ => z2, fun v hv => hv.drew⟩
    obtain ⟨q, W2, b1, b2, b3, b4⟩ := B
    obtain ⟨z, z1, z2, z3⟩ := run_none (op := .add) (.inl rfl) (sum_nan a2 b2 (hn.imp a3 b3)).1 W2
    exact ⟨p, W1, q, W2, z, _, a1, b1, z3, z1, z2, (fun v hv => (b4 v (a4 v hv)).drew), a5⟩
  obtain ⟨p, W1, q, W2, z, W3, a1, a2, a3, z1, z2, hB, hc⟩ := H3 (w.alloc (.cells #[.float .f64 x, .float .f64 y, .bool e] 29))
  have c1 : W1.cell? ⟨w.heap.size, 1, none⟩ = some (.float .f64 y) := by rw [hc]; simp [go_sem]
  clear hc
  have HP := fun w => pos_any z w z1
  have hz : posW z = z := by
    unfold posW; rw [if_neg]; unfold nan at z2; have := of_decide_eq_true z2; omega
  rw [hz] at HP
  replace HP := Lib.hid HP
  have hW3 := Lib.hid (hB w (ba (Below.refl _ _) _))
  have Z1 := Lib.hid z1; have Z2 := Lib.hid z2
  clear H3 z1 z2 hz hB hx hy hn two_lt
  unfold sv
  rcases hno with ⟨rfl, rfl⟩ | ⟨rfl, rfl⟩
  · go_enter Tryz.func19, Tryz.ntmps19
    go_wp2_with (first | (go_at_call 22; (first | with_reducible refine (HXP.out _).mono ?_ | with_reducible refine (HXN.out _).mono ?_ | with_reducible refine (HYP.out _).mono ?_ | with_reducible refine (HYN.out _).mono ?_); rintro _ w' ⟨rfl, rfl⟩) | (go_at_call 45; with_reducible refine (HP.out _).mono ?_; rintro _ w' ⟨rfl, rfl⟩))
    all_goals go_ret
    all_goals exact ⟨⟨z, Z1.out, Z2.out, rfl⟩, hW3.out⟩
  · cases a <;> cases b
    all_goals
      go_enter Tryz.func19, Tryz.ntmps19
      go_wp2_with (first | (go_at_call 22; (first | with_reducible refine (HXP.out _).mono ?_ | with_reducible refine (HXN.out _).mono ?_ | with_reducible refine (HYP.out _).mono ?_ | with_reducible refine (HYN.out _).mono ?_); rintro _ w' ⟨rfl, rfl⟩) | (go_at_call 45; with_reducible refine (HP.out _).mono ?_; rintro _ w' ⟨rfl, rfl⟩))
    all_goals go_ret
    all_goals exact ⟨⟨z, Z1.out, Z2.out, rfl⟩, hW3.out⟩
end Ax
end Go.Proofs.YtmebmfgmopdieaaGreatDoor
