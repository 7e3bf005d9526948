/- THE WALKS of layer 2's reference, and of the small tests of its statements. -/
import Derived.Test.YtjcjffakemcalaaFlNext
set_option linter.unusedSimpArgs false
set_option linter.unusedVariables false
namespace Go.Proofs.Ytjcjffakemcalaa
open Go.RowKit
namespace Fl

def rord (a b : Nat) : Int := if cls a != cls b then (if cls a < cls b then -1 else 1) else if fLt a b then -1 else if fGt a b then 1 else 0
def sameB (a b : Nat) : Bool := (nan a && nan b) || decide (a = b)

theorem rorder_any (a b : Nat) (w : World) (ha : a < 18446744073709551616) (hb : b < 18446744073709551616) :
    Calls Try.prog 9 #[.float .f64 a, .float .f64 b] w fun e w' => e = .returned (.int .i64 (rord a b)) ∧ w = w' := by
  go_enter Try.func9, Try.ntmps9
  go_wp2_with (go_at_call 32; refine (class_any _ _ (by assumption)).mono ?_; rintro e w' ⟨rfl, rfl⟩)
  all_goals go_ret
  all_goals refine ⟨ri ?_, rfl⟩
  all_goals unfold rord fLt fGt
  all_goals simp [*]

theorem rnext_any (x : Nat) (w : World) (hx : x < 18446744073709551616) :
    Calls Try.prog 14 #[.float .f64 x] w fun e w' => e = .returned (.tuple #[.float .f64 (rnxt x).1, .bool (rnxt x).2]) ∧ w = w' := by
  go_enter Try.func14, Try.ntmps14
  go_wp2_with (go_at_call 32; refine (class_any _ _ (by assumption)).mono ?_; rintro e w' ⟨rfl, rfl⟩)
  all_goals go_ret2
  all_goals refine ⟨ret2_fb ?_ ?_, rfl⟩
  all_goals unfold rnxt
  all_goals simp [*]

theorem rprev_any (x : Nat) (w : World) (hx : x < 18446744073709551616) :
    Calls Try.prog 15 #[.float .f64 x] w fun e w' => e = .returned (.tuple #[.float .f64 (rprv x).1, .bool (rprv x).2]) ∧ w = w' := by
  go_enter Try.func15, Try.ntmps15
  go_wp2_with (go_at_call 32; refine (class_any _ _ (by assumption)).mono ?_; rintro e w' ⟨rfl, rfl⟩)
  all_goals go_ret2
  all_goals refine ⟨ret2_fb ?_ ?_, rfl⟩
  all_goals unfold rprv
  all_goals simp [*]

theorem eqB {a b : Nat} : ((a : Int) == (b : Int)) = decide (a = b) := by
  rw [Bool.eq_iff_iff, beq_iff_eq, decide_eq_true_eq]; omega

theorem eq_self {x : Nat} (hx : x < 18446744073709551616) : (FloatKind.f64.format.order x x = some Ordering.eq) ↔ nan x = false := by
  have := ne_self hx
  cases h : nan x <;> rw [h] at this <;> simpa using this

theorem same_any (a b : Nat) (w : World) (ha : a < 18446744073709551616) (hb : b < 18446744073709551616) :
    Calls Try.prog 10 #[.float .f64 a, .float .f64 b] w fun e w' => e = .returned (.bool (sameB a b)) ∧ w = w' := by
  go_enter Try.func10, Try.ntmps10
  go_wp2
  all_goals go_ret
  all_goals refine ⟨rb ?_, rfl⟩
  all_goals unfold sameB
  · have h := (eq_self ha).1 ‹_›
    rw [h, Bool.false_and, Bool.false_or, ← eqB]
  · have h := (eq_self hb).1 ‹_›
    rw [h, Bool.and_false, Bool.false_or, ← eqB]
  · have h1 : nan a = true := by cases h : nan a; exact absurd ((eq_self ha).2 h) ‹_›; rfl
    have h2 : nan b = true := by cases h : nan b; exact absurd ((eq_self hb).2 h) ‹_›; rfl
    rw [h1, h2]; rfl

/-- 'gives' of the statements. -/
def givesB (x : Nat) (e : Int) (want : Nat) (there : Bool) : Bool := if there then sameB x want && e == 0 else sameB x 0 && e == 16

theorem gives_any (x : Nat) (e : Int) (want : Nat) (there : Bool) (w : World) (ha : x < 18446744073709551616) (hb : want < 18446744073709551616) :
    Calls Try.prog 16 #[.float .f64 x, .int .i64 e, .float .f64 want, .bool there] w fun r w' => r = .returned (.bool (givesB x e want there)) ∧ w = w' := by
  cases there
  all_goals go_enter Try.func16, Try.ntmps16
  all_goals go_wp2_with (go_at_call 10; refine (same_any _ _ _ (by first | assumption | decide) (by first | assumption | decide)).mono ?_; rintro e w' ⟨rfl, rfl⟩)
  all_goals go_ret
  all_goals refine ⟨rb ?_, rfl⟩
  all_goals unfold givesB
  all_goals simp [*]

theorem whole_any (n e want : Int) (w : World) :
    Calls Try.prog 26 #[.int .i64 n, .int .i64 e, .int .i64 want] w fun r w' => r = .returned (.bool (n == want && e == 0)) ∧ w = w' := by
  go_enter Try.func26, Try.ntmps26
  go_wp2
  all_goals go_ret
  all_goals refine ⟨rb ?_, rfl⟩
  all_goals simp [*]

end Fl
end Go.Proofs.Ytjcjffakemcalaa
