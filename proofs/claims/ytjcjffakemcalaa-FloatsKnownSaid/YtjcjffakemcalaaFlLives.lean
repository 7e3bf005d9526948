/- THE WALK of circalaw02.lives: the examples of the chapter. -/
import Derived.Test.YtjcjffakemcalaaFlRFloor
set_option linter.unusedSimpArgs false
set_option linter.unusedVariables false
namespace Go.Proofs.Ytjcjffakemcalaa
open Go.RowKit
namespace Fl

def floorC (x : Nat) : Int × Int := if nan x then (0, 1) else wholeC (intV false (vl x))
def ceilC (x : Nat) : Int × Int := if nan x then (0, 1) else wholeC (intV true (vl x))
def cmpC (x : Nat) (n : Int) : Int × Int := if nan x then (0, 1) else (cmpI (vl x) (n * (U : Int)), 0)

theorem floor_any (x : Nat) (w : World) (hx : x < 18446744073709551616) :
    Calls Try.prog 23 #[.float .f64 x] w (DrewI w (floorC x).1 (floorC x).2) := by
  unfold floorC
  cases hn : nan x
  · exact (floor_num x w hx hn).mono fun e w' ⟨he, hw⟩ => ⟨0, he, hw.symm⟩
  · exact floor_nan x w hx hn
theorem ceil_any (x : Nat) (w : World) (hx : x < 18446744073709551616) :
    Calls Try.prog 24 #[.float .f64 x] w (DrewI w (ceilC x).1 (ceilC x).2) := by
  unfold ceilC
  cases hn : nan x
  · exact (ceil_num x w hx hn).mono fun e w' ⟨he, hw⟩ => ⟨0, he, hw.symm⟩
  · exact ceil_nan x w hx hn
theorem cmp_any (x : Nat) (n : Int) (w : World) (hx : x < 18446744073709551616) (l0 : -9223372036854775808 ≤ n) (l1 : n < 9223372036854775808) :
    Calls Try.prog 22 #[.float .f64 x, .int .i64 n] w fun e w' => e = .returned (.tuple #[.int .i64 (cmpC x n).1, .int .i64 (cmpC x n).2]) ∧ w = w' := by
  unfold cmpC
  cases hn : nan x
  · exact cmp_num x n w hx hn l0 l1
  · exact cmp_nan x n w hx hn

theorem copysign_any (w : World) :
    Calls Try.prog 28 #[.float .f64 0, .float .f64 13830554455654793216] w fun e w' => e = .returned (.float .f64 9223372036854775808) ∧ w = w' := by
  have h1 : bits .andNot .u64 0 9223372036854775808 = 0 := by decide
  have h2 : bits .and .u64 13830554455654793216 9223372036854775808 = 9223372036854775808 := by decide
  have h3 : bits .or .u64 0 9223372036854775808 = 9223372036854775808 := by decide
  go_enter Try.func28, Try.ntmps28
  go_wp2
  go_ret
  exact ⟨rfl, rfl⟩

def DrewB (w : World) (b : Bool) (e : Ending) (w' : World) : Prop := ∃ n, e = .returned (.bool b) ∧ w' = w.drewN n

set_option maxRecDepth 100000 in
set_option maxHeartbeats 1000000 in
theorem lives_any (w : World) : Calls Try.prog 11 #[] w (DrewB w true) := by
  have o1 : cmpI ((ky 9223372036854775808 : Nat) : Int) ((ky 0 : Nat) : Int) = -1 := by decide
  have o2 : cmpI ((ky 9221120237041090561 : Nat) : Int) ((ky 9218868437227405312 : Nat) : Int) = 1 := by decide
  have o3 : cmpI ((ky 9221120237041090561 : Nat) : Int) ((ky 18444492273895866369 : Nat) : Int) = 0 := by decide
  have o4 : cmpI ((ky 4607182418800017408 : Nat) : Int) ((ky 4607182418800017408 : Nat) : Int) = 0 := by decide
  have n1 : nxt 9223372036854775808 = (0, 0) := by decide
  have n2 : nxt 9218868437227405311 = (9218868437227405312, 0) := by decide
  have n3 : nxt 9218868437227405312 = (0, 16) := by decide
  have n4 : prv 0 = (9223372036854775808, 0) := by decide
  have g1 : givesB 0 0 0 true = true := by decide
  have g2 : givesB 9218868437227405312 0 9218868437227405312 true = true := by decide
  have g3 : givesB 0 16 0 false = true := by decide
  have g4 : givesB 9223372036854775808 0 9223372036854775808 true = true := by decide
  have d1 : downW 9007199254740993 = 4845873199050653696 := by decide +kernel
  have d2 : upW 9007199254740993 = 4845873199050653697 := by decide +kernel
  have d3 : upW 9223372036854775807 = 4890909195324358656 := by decide +kernel
  have d4 : downW (-9223372036854775808) = 14114281232179134464 := by decide +kernel
  have d5 : decide (downW (-7) = upW (-7)) = true := by decide +kernel
  have e1 : (FloatKind.f64.format.order 4845873199050653696 4845873199050653696 != some Ordering.eq) = false := by decide +kernel
  have e2 : (FloatKind.f64.format.order 4845873199050653697 4845873199050653697 != some Ordering.eq) = false := by decide +kernel
  have e3 : (FloatKind.f64.format.order 4890909195324358656 4890909195324358656 != some Ordering.eq) = false := by decide +kernel
  have e4 : (FloatKind.f64.format.order 14114281232179134464 14114281232179134464 != some Ordering.eq) = false := by decide +kernel
  have f1 : floorC 13826050856027422720 = (-1, 0) := by decide +kernel
  have f2 : ceilC 13826050856027422720 = (0, 0) := by decide +kernel
  have f3 : floorC 4890909195324358656 = (0, 15) := by decide +kernel
  have f4 : ceilC 9221120237041090561 = (0, 1) := by decide +kernel
  have c1 : cmpC 4845873199050653696 9007199254740993 = (-1, 0) := by decide +kernel
  have c2 : cmpC 9223372036854775808 0 = (0, 0) := by decide +kernel
  have c3 : cmpC 9218868437227405312 9223372036854775807 = (1, 0) := by decide +kernel
  go_enter Try.func11, Try.ntmps11
  go_wp2_with (first
    | (go_at_call 27; refine (inf_pos _ _ (by decide)).mono ?_; rintro e w' ⟨rfl, rfl⟩)
    | (go_at_call 29; refine (nan_any _).mono ?_; rintro e w' ⟨rfl, rfl⟩)
    | (go_at_call 28; refine (copysign_any _).mono ?_; rintro e w' ⟨rfl, rfl⟩)
    | (go_at_call 8; refine (order_any _ _ _ (by decide) (by decide)).mono ?_; rintro e w' ⟨rfl, rfl⟩)
    | (go_at_call 12; refine (next_any _ _ (by decide)).mono ?_; rintro e w' ⟨rfl, rfl⟩)
    | (go_at_call 13; refine (prev_any _ _ (by decide)).mono ?_; rintro e w' ⟨rfl, rfl⟩)
    | (go_at_call 16; refine (gives_any _ _ _ _ _ (by decide) (by decide)).mono ?_; rintro e w' ⟨rfl, rfl⟩)
    | (go_at_call 17; refine (down_any _ _ (by decide) (by decide)).mono ?_; rintro e w' ⟨rfl, rfl⟩)
    | (go_at_call 18; refine (up_any _ _ (by decide) (by decide)).mono ?_; rintro e w' ⟨rfl, rfl⟩)
    | (go_at_call 21; refine (exact_any _ _ (by decide) (by decide)).mono ?_; rintro e w' ⟨rfl, rfl⟩)
    | (go_at_call 23; refine (floor_any _ _ (by decide)).mono ?_; rintro e w' ⟨n, rfl, rfl⟩)
    | (go_at_call 24; refine (ceil_any _ _ (by decide)).mono ?_; rintro e w' ⟨n, rfl, rfl⟩)
    | (go_at_call 22; refine (cmp_any _ _ _ (by decide) (by decide) (by decide)).mono ?_; rintro e w' ⟨rfl, rfl⟩)
    | (go_at_call 26; refine (whole_any _ _ _ _).mono ?_; rintro e w' ⟨rfl, rfl⟩))
  go_ret
  exact ⟨_, rfl, rfl⟩
end Fl
end Go.Proofs.Ytjcjffakemcalaa
