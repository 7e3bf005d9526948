/- THE WALKS of layer 2: Next and Prev, classes, the small tests of the statements. -/
import Derived.Test.YtjcjffakemcalaaFlLeaf
set_option linter.unusedSimpArgs false
set_option linter.unusedVariables false
namespace Go.Proofs.Ytjcjffakemcalaa
open Go.RowKit
namespace Fl
theorem ret2_fi {x y : Nat} {a b : Int} {k : IntKind} (h : x = y) (h2 : a = b) : Ending.returned (.tuple #[.float .f64 x, .int k a]) = .returned (.tuple #[.float .f64 y, .int k b]) := by rw [h, h2]
theorem ret2_fb {x y : Nat} {a b : Bool} (h : x = y) (h2 : a = b) : Ending.returned (.tuple #[.float .f64 x, .bool a]) = .returned (.tuple #[.float .f64 y, .bool b]) := by rw [h, h2]

theorem ky_inf : ky 9218868437227405312 = 18442240474082181120 := by decide
theorem ky_ninf : ky 18442240474082181120 = 4503599627370495 := by decide

theorem next_any (x : Nat) (w : World) (hx : x < 18446744073709551616) :
    Calls Try.prog 12 #[.float .f64 x] w fun e w' => e = .returned (.tuple #[.float .f64 (nxt x).1, .int .i64 (nxt x).2]) ∧ w = w' := by
  have hl := ky_lt hx
  by_cases h : ky x < 18442240474082181120
  · have h1 : (ky x : Int) < (ky 9218868437227405312 : Int) := by rw [ky_inf]; omega
    have h2 : IntKind.u64.wrap ((ky x : Int) + 1) = ((ky x + 1 : Nat) : Int) := by rw [IntKind.wrap_u64]; omega
    have e : nxt x = (atN (ky x + 1), 0) := by unfold nxt; rw [if_pos h]
    have g0 : 0 ≤ ((ky x + 1 : Nat) : Int) := by omega
    have g1 : ((ky x + 1 : Nat) : Int) < 18446744073709551616 := by omega
    have E := Lib.hid e; have G0 := Lib.hid g0; have G1 := Lib.hid g1; clear e hl h g0 g1
    go_enter Try.func12, Try.ntmps12
    go_wp2_with (first | (go_at_call 31; refine (key_any _ _ (by first | assumption | decide)).mono ?_; rintro e w' ⟨rfl, rfl⟩) | (go_at_call 27; refine (inf_pos _ _ (by decide)).mono ?_; rintro e w' ⟨rfl, rfl⟩) | (go_at_call 35; refine (at_any _ _ G0.out G1.out).mono ?_; rintro e w' ⟨rfl, rfl⟩))
    go_ret2
    exact ⟨ret2_fi (by rw [E.out]) (by rw [E.out]), rfl⟩
  · have h1 : ¬ (ky x : Int) < (ky 9218868437227405312 : Int) := by rw [ky_inf]; omega
    have e : nxt x = (0, 16) := by unfold nxt; rw [if_neg h]
    have E := Lib.hid e; clear e hl h
    go_enter Try.func12, Try.ntmps12
    go_wp2_with (first | (go_at_call 31; refine (key_any _ _ (by first | assumption | decide)).mono ?_; rintro e w' ⟨rfl, rfl⟩) | (go_at_call 27; refine (inf_pos _ _ (by decide)).mono ?_; rintro e w' ⟨rfl, rfl⟩))
    go_ret2
    exact ⟨ret2_fi (by rw [E.out]) (by rw [E.out]), rfl⟩

theorem prev_any (x : Nat) (w : World) (hx : x < 18446744073709551616) :
    Calls Try.prog 13 #[.float .f64 x] w fun e w' => e = .returned (.tuple #[.float .f64 (prv x).1, .int .i64 (prv x).2]) ∧ w = w' := by
  have hl := ky_lt hx
  by_cases h0 : ky x = 18446744073709551615
  · have h1 : ((ky x : Int) != 18446744073709551615) = false := by rw [h0]; decide
    have e : prv x = (0, 16) := by unfold prv; rw [if_neg (by omega)]
    have E := Lib.hid e; clear e hl h0
    go_enter Try.func13, Try.ntmps13
    go_wp2_with (first | (go_at_call 31; refine (key_any _ _ (by first | assumption | decide)).mono ?_; rintro e w' ⟨rfl, rfl⟩) | (go_at_call 27; refine (inf_neg _ _ (by decide)).mono ?_; rintro e w' ⟨rfl, rfl⟩))
    go_ret2
    exact ⟨ret2_fi (by rw [E.out]) (by rw [E.out]), rfl⟩
  · have h1 : ((ky x : Int) != 18446744073709551615) = true := by rw [bne_iff_ne]; omega
    by_cases h : 4503599627370495 < ky x
    · have h3 : (ky 18442240474082181120 : Int) < (ky x : Int) := by rw [ky_ninf]; omega
      have h2 : IntKind.u64.wrap ((ky x : Int) - 1) = ((ky x - 1 : Nat) : Int) := by rw [IntKind.wrap_u64]; omega
      have e : prv x = (atN (ky x - 1), 0) := by unfold prv; rw [if_pos ⟨h0, h⟩]
      have g0 : 0 ≤ ((ky x - 1 : Nat) : Int) := by omega
      have g1 : ((ky x - 1 : Nat) : Int) < 18446744073709551616 := by omega
      have E := Lib.hid e; have G0 := Lib.hid g0; have G1 := Lib.hid g1; clear e hl h g0 g1 h0
      go_enter Try.func13, Try.ntmps13
      go_wp2_with (first | (go_at_call 31; refine (key_any _ _ (by first | assumption | decide)).mono ?_; rintro e w' ⟨rfl, rfl⟩) | (go_at_call 27; refine (inf_neg _ _ (by decide)).mono ?_; rintro e w' ⟨rfl, rfl⟩) | (go_at_call 35; refine (at_any _ _ G0.out G1.out).mono ?_; rintro e w' ⟨rfl, rfl⟩))
      go_ret2
      exact ⟨ret2_fi (by rw [E.out]) (by rw [E.out]), rfl⟩
    · have h3 : ¬ (ky 18442240474082181120 : Int) < (ky x : Int) := by rw [ky_ninf]; omega
      have e : prv x = (0, 16) := by unfold prv; rw [if_neg (by omega)]
      have E := Lib.hid e; clear e hl h h0
      go_enter Try.func13, Try.ntmps13
      go_wp2_with (first | (go_at_call 31; refine (key_any _ _ (by first | assumption | decide)).mono ?_; rintro e w' ⟨rfl, rfl⟩) | (go_at_call 27; refine (inf_neg _ _ (by decide)).mono ?_; rintro e w' ⟨rfl, rfl⟩))
      go_ret2
      exact ⟨ret2_fi (by rw [E.out]) (by rw [E.out]), rfl⟩

theorem lt_zero {x : Nat} (hx : x < 18446744073709551616) (hn : nan x = false) (h0 : x ≠ 9223372036854775808) : (FloatKind.f64.format.order x 0 == some Ordering.lt) = decide (9223372036854775808 ≤ x) := by
  rw [f_num hx (by omega) hn (by decide)]
  have e0 : vl 0 = 0 := by decide
  rw [e0]
  have e := vl_eq hx
  by_cases h : 9223372036854775808 ≤ x
  · have hm := mg_mono (show 0 < x % 9223372036854775808 from by omega)
    rw [mg_zero] at hm
    rw [decide_eq_true h] at e ⊢
    rw [if_pos rfl] at e
    have : compare (vl x) 0 = .lt := by rw [Int.compare_eq_lt]; omega
    rw [this]; rfl
  · rw [decide_eq_false h] at e ⊢
    rw [if_neg (by decide)] at e
    have : compare (vl x) 0 ≠ .lt := by rw [Ne, Int.compare_eq_lt]; omega
    simpa using this

theorem class_any (x : Nat) (w : World) (hx : x < 18446744073709551616) :
    Calls Try.prog 32 #[.float .f64 x] w fun e w' => e = .returned (.int .i64 (cls x)) ∧ w = w' := by
  have h1 := ne_self hx
  cases hn : nan x
  · rw [hn] at h1
    by_cases c1 : x = 9218868437227405312
    · subst c1
      clear hx hn h1
      have h1 : (FloatKind.f64.format.order 9218868437227405312 9218868437227405312 != some Ordering.eq) = false := by decide
      go_enter Try.func32, Try.ntmps32
      go_wp2
      go_ret
      exact ⟨ri (by decide), rfl⟩
    by_cases c2 : x = 18442240474082181120
    · subst c2
      clear hx hn h1 c1
      have h1 : (FloatKind.f64.format.order 18442240474082181120 18442240474082181120 != some Ordering.eq) = false := by decide
      go_enter Try.func32, Try.ntmps32
      go_wp2
      go_ret
      exact ⟨ri (by decide), rfl⟩
    have b1 : ((x : Int) == 9218868437227405312) = false := by rw [beq_eq_false_iff_ne]; omega
    have b2 : ((x : Int) == 18442240474082181120) = false := by rw [beq_eq_false_iff_ne]; omega
    by_cases c3 : x = 0
    · subst c3
      clear hx hn h1 c1 c2 b1 b2
      have h1 : (FloatKind.f64.format.order 0 0 != some Ordering.eq) = false := by decide
      go_enter Try.func32, Try.ntmps32
      go_wp2
      go_ret
      exact ⟨ri (by decide), rfl⟩
    have b3 : ((x : Int) == 0) = false := by rw [beq_eq_false_iff_ne]; omega
    by_cases c4 : x = 9223372036854775808
    · subst c4
      clear hx hn h1 c1 c2 c3 b1 b2 b3
      have h1 : (FloatKind.f64.format.order 9223372036854775808 9223372036854775808 != some Ordering.eq) = false := by decide
      go_enter Try.func32, Try.ntmps32
      go_wp2
      go_ret
      exact ⟨ri (by decide), rfl⟩
    have b4 : ((x : Int) == 9223372036854775808) = false := by rw [beq_eq_false_iff_ne]; omega
    have h5 := lt_zero hx hn c4
    by_cases c5 : 9223372036854775808 ≤ x
    · rw [decide_eq_true c5] at h5
      have e : 1 = cls x := by unfold cls; rw [hn, if_neg (by decide), if_neg c1, if_neg c2, if_neg c3, if_neg c4, if_pos c5]
      have E := Lib.hid e; clear e hx hn c1 c2 c3 c4 c5
      go_enter Try.func32, Try.ntmps32
      go_wp2
      go_ret
      exact ⟨ri E.out, rfl⟩
    · rw [decide_eq_false c5] at h5
      have e : 4 = cls x := by unfold cls; rw [hn, if_neg (by decide), if_neg c1, if_neg c2, if_neg c3, if_neg c4, if_neg c5]
      have E := Lib.hid e; clear e hx hn c1 c2 c3 c4 c5
      go_enter Try.func32, Try.ntmps32
      go_wp2
      go_ret
      exact ⟨ri E.out, rfl⟩
  · rw [hn] at h1
    have e : 6 = cls x := by unfold cls; rw [hn, if_pos rfl]
    have E := Lib.hid e; clear e hx hn
    go_enter Try.func32, Try.ntmps32
    go_wp2
    go_ret
    exact ⟨ri E.out, rfl⟩

end Fl
end Go.Proofs.Ytjcjffakemcalaa
