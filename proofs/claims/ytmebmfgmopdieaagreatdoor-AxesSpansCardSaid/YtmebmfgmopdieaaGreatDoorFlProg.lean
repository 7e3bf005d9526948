/- THE WALKS of layer 2's program: against, near, Down, Up, Exact, Floor, Ceil, Cmp. -/
import Derived.Test.YtmebmfgmopdieaaGreatDoorFlNear
set_option linter.unusedSimpArgs false
set_option linter.unusedVariables false
set_option maxRecDepth 100000
namespace Go.Proofs.YtmebmfgmopdieaaGreatDoor
open Go.RowKit
namespace Fl

theorem U_posI : (0 : Int) < (U : Int) := by have := U_pos; omega

theorem conv_fi (y : Nat) (n : Int) (h : floatToIntVal .f64 y .i64 = some n) (w : World) :
    (Go.convert 27 2 (Value.float .f64 y)).run Tryz.prog w = .ok (.int .i64 n) w :=
  run_convert_float_int (P := Tryz.prog) w 27 2 .f64 .i64 y n (by kernel_rfl) Tryz.underlying2 h

theorem against_any (x : Nat) (n : Int) (w : World) (hx : x < 18446744073709551616) (hn : nan x = false) (l0 : -9223372036854775808 ≤ n) (l1 : n < 9223372036854775808) :
    Calls Tryz.prog 56 #[.float .f64 x, .int .i64 n] w fun e w' => e = .returned (.int .i64 (cmpI (vl x) (n * (U : Int)))) ∧ w = w' := by
  have hU := U_posI
  have hg := ge_iff hx (show 4890909195324358656 < 18446744073709551616 by decide) hn (by decide)
  have hl := lt_iff hx (show 14114281232179134464 < 18446744073709551616 by decide) hn (by decide)
  rw [vl_great] at hg
  rw [vl_ngreat] at hl
  by_cases c1 : 9223372036854775808 * (U : Int) ≤ vl x
  · rw [decide_eq_true c1] at hg
    have e : 1 = cmpI (vl x) (n * (U : Int)) := cmpI_gt (Int.lt_of_lt_of_le (Int.mul_lt_mul_of_pos_right l1 hU) c1)
    have E := Lib.hid e; clear e hl c1 hn l0 l1 hU
    go_enter Tryz.func56, Tryz.ntmps56
    go_wp2
    go_ret
    exact ⟨ri E.out, rfl⟩
  rw [decide_eq_false c1] at hg
  by_cases c2 : vl x < -9223372036854775808 * (U : Int)
  · rw [decide_eq_true c2] at hl
    have e : -1 = cmpI (vl x) (n * (U : Int)) := cmpI_lt (Int.lt_of_lt_of_le c2 (Int.mul_le_mul_of_nonneg_right l0 (by omega)))
    have E := Lib.hid e; clear e c1 c2 hn l0 l1 hU
    go_enter Tryz.func56, Tryz.ntmps56
    go_wp2
    go_ret
    exact ⟨ri E.out, rfl⟩
  rw [decide_eq_false c2] at hl
  obtain ⟨y1, y2, y3⟩ := intW_spec false hx hn
  have hfin : vl (intW false x) = intV false (vl x) * (U : Int) := by
    rcases y3 with ⟨h, _⟩ | ⟨_, h⟩
    · exfalso
      have hb : (36893488147419103232 * (U : Int)) < (mg 9218868437227405312 : Int) := by have := big_lt; omega
      rcases vl_inf hx h with ⟨_, e⟩ | ⟨_, e⟩ <;> rw [e] at c1 c2 <;> omega
    · exact h
  have e0 : intV false (vl x) = vl x / (U : Int) := rfl
  rw [e0] at hfin
  have f0 : vl x / (U : Int) * (U : Int) ≤ vl x := Int.ediv_mul_le _ (by omega)
  have f1 : vl x < (vl x / (U : Int) + 1) * (U : Int) := Int.lt_ediv_add_one_mul_self _ hU
  have g0 : -9223372036854775808 ≤ vl x / (U : Int) := Int.le_ediv_of_mul_le hU (by omega)
  have g1 : vl x / (U : Int) < 9223372036854775808 := Int.ediv_lt_of_lt_mul hU (by omega)
  have hconv := conv_fi (intW false x) (vl x / (U : Int)) (toInt_vl y1 y2 hfin g0 g1) w
  have hfl := fun w => mfloor_num x w hx hn
  have heq := eq_iff y1 hx y2 hn
  rw [hfin] at heq
  generalize intW false x = y at *
  generalize vl x / (U : Int) = f at *
  rcases Int.lt_trichotomy f n with c | c | c
  · have e : -1 = cmpI (vl x) (n * (U : Int)) := cmpI_lt (Int.lt_of_lt_of_le f1 (Int.mul_le_mul_of_nonneg_right (by omega) (by omega)))
    have hc : cmpI f n = -1 := (cmpI_lt c).symm
    have E := Lib.hid e; have HF := Lib.hid hfl; clear e hfl c1 c2 hn l0 l1 hU hfin f0 f1 g0 g1 y1 y2 y3 e0 heq c
    go_enter Tryz.func56, Tryz.ntmps56
    go_wp2_with (first | (go_at_call 39; refine (HF.out _).mono ?_; rintro e w' ⟨rfl, rfl⟩) | (go_at_call 84; refine (cmpN _ _ _).mono ?_; rintro e w' ⟨rfl, rfl⟩))
    go_ret
    exact ⟨ri E.out, rfl⟩
  · subst c
    have hc : cmpI f f = 0 := (cmpI_eq (by omega) (by omega)).symm
    by_cases c3 : f * (U : Int) = vl x
    · rw [decide_eq_true c3] at heq
      have e : 0 = cmpI (vl x) (f * (U : Int)) := cmpI_eq (by omega) (by omega)
      have E := Lib.hid e; have HF := Lib.hid hfl; clear e hfl c1 c2 hn l0 l1 hU hfin f0 f1 g0 g1 y1 y2 y3 e0 c3
      go_enter Tryz.func56, Tryz.ntmps56
      go_wp2_with (first | (go_at_call 39; refine (HF.out _).mono ?_; rintro e w' ⟨rfl, rfl⟩) | (go_at_call 84; refine (cmpN _ _ _).mono ?_; rintro e w' ⟨rfl, rfl⟩))
      go_ret
      exact ⟨ri E.out, rfl⟩
    · rw [decide_eq_false c3] at heq
      have e : 1 = cmpI (vl x) (f * (U : Int)) := cmpI_gt (by omega)
      have E := Lib.hid e; have HF := Lib.hid hfl; clear e hfl c1 c2 hn l0 l1 hU hfin f0 f1 g0 g1 y1 y2 y3 e0 c3
      go_enter Tryz.func56, Tryz.ntmps56
      go_wp2_with (first | (go_at_call 39; refine (HF.out _).mono ?_; rintro e w' ⟨rfl, rfl⟩) | (go_at_call 84; refine (cmpN _ _ _).mono ?_; rintro e w' ⟨rfl, rfl⟩))
      go_ret
      exact ⟨ri E.out, rfl⟩
  · have e : 1 = cmpI (vl x) (n * (U : Int)) := cmpI_gt (Int.lt_of_lt_of_le (Int.mul_lt_mul_of_pos_right c hU) f0)
    have hc : cmpI f n = 1 := (cmpI_gt c).symm
    have E := Lib.hid e; have HF := Lib.hid hfl; clear e hfl c1 c2 hn l0 l1 hU hfin f0 f1 g0 g1 y1 y2 y3 e0 heq c
    go_enter Tryz.func56, Tryz.ntmps56
    go_wp2_with (first | (go_at_call 39; refine (HF.out _).mono ?_; rintro e w' ⟨rfl, rfl⟩) | (go_at_call 84; refine (cmpN _ _ _).mono ?_; rintro e w' ⟨rfl, rfl⟩))
    go_ret
    exact ⟨ri E.out, rfl⟩

end Fl
end Go.Proofs.YtmebmfgmopdieaaGreatDoor
