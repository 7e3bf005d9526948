/- THE WALK of FloatsWhole for numbers, and its end: it returns true, and changes nothing but the count of draws. -/
import Derived.Test.YtjcjffakemcalaaFlLawWhole
set_option linter.unusedSimpArgs false
set_option linter.unusedVariables false
namespace Go.Proofs.Ytjcjffakemcalaa
open Go.RowKit
namespace Fl

set_option maxRecDepth 100000 in
set_option maxHeartbeats 2000000 in
theorem whole_1_lt (x d u : Nat) (n : Int) (w : World) (hx : x < 18446744073709551616) (hn : (FloatKind.f64.format.order x x != some Ordering.eq) = false)
    (hF : ∀ w, Calls Try.prog 23 #[.float .f64 x] w (DrewI w (floorC x).1 (floorC x).2))
    (hC : ∀ w, Calls Try.prog 24 #[.float .f64 x] w (DrewI w (ceilC x).1 (ceilC x).2))
    (hM : ∀ w, Calls Try.prog 22 #[.float .f64 x, .int .i64 n] w fun e w' => e = .returned (.tuple #[.int .i64 (-1), .int .i64 0]) ∧ w = w')
    (hR : ∀ w, Calls Try.prog 25 #[.float .f64 x] w fun e w' => e = .returned (.tuple #[.int .i64 (rfC x).1, .bool (rfC x).2]) ∧ w = w')
    (hS : ∀ w, Calls Try.prog 25 #[.float .f64 (negW x)] w fun e w' => e = .returned (.tuple #[.int .i64 (rfC (negW x)).1, .bool (rfC (negW x)).2]) ∧ w = w')
    (hRD : ∀ w, Calls Try.prog 19 #[.int .i64 n] w fun e w' => e = .returned (.float .f64 d) ∧ w = w')
    (hRU : ∀ w, Calls Try.prog 20 #[.int .i64 n] w fun e w' => e = .returned (.float .f64 u) ∧ w = w')
    (F C : Int) (hf : floorC x = (F, 0)) (hr : rfC x = (F, true)) (hc : ceilC x = (C, 0)) (hs : rfC (negW x) = (-C, true)) (hq : (FloatKind.f64.format.order x 14114281232179134464 == some Ordering.eq) = false) (c0 : -9223372036854775808 < C) (c1 : C < 9223372036854775808)
    (s1 : (FloatKind.f64.format.order u x == some Ordering.gt) = true) (s3 : (FloatKind.f64.format.order d x == some Ordering.lt) = false) (s4 : (FloatKind.f64.format.order u x == some Ordering.lt) = false) (s6 : (FloatKind.f64.format.order u x == some Ordering.eq) = false) (s7 : (FloatKind.f64.format.order d x == some Ordering.gt || FloatKind.f64.format.order d x == some Ordering.eq) = true) :
    Calls Try.prog 6 #[.float .f64 x, .int .i64 n] w (DrewB w true) := by
  have HL := Lib.hid lives_any
  rw [hf] at hF
  rw [hc] at hC
  rw [hr] at hR
  rw [hs] at hS
  have HF := Lib.hid hF; have HC := Lib.hid hC; have HM := Lib.hid hM; have HR := Lib.hid hR; have HS := Lib.hid hS; have HRD := Lib.hid hRD; have HRU := Lib.hid hRU
  clear hF hC hM hR hS hRD hRU hf hc hr hs hx
  have hne : ((-C) == (-9223372036854775808 : Int)) = false := by rw [beq_eq_false_iff_ne]; omega
  cases s5 : (FloatKind.f64.format.order d x == some Ordering.eq)
  · rw [s5, Bool.or_false] at s7
    go_enter Try.func6, Try.ntmps6
    go_wp2_with (first
      | (go_at_call 23; ((with_reducible refine (HF.out _).mono ?_); rintro e w' ⟨k, rfl, rfl⟩))
      | (go_at_call 24; ((with_reducible refine (HC.out _).mono ?_); rintro e w' ⟨k, rfl, rfl⟩))
      | (go_at_call 22; ((with_reducible refine (HM.out _).mono ?_); rintro e w' ⟨rfl, rfl⟩))
      | (go_at_call 25; ((with_reducible refine (HR.out _).mono ?_); rintro e w' ⟨rfl, rfl⟩))
      | (go_at_call 25; ((with_reducible refine (HS.out _).mono ?_); rintro e w' ⟨rfl, rfl⟩))
      | (go_at_call 19; ((with_reducible refine (HRD.out _).mono ?_); rintro e w' ⟨rfl, rfl⟩))
      | (go_at_call 20; ((with_reducible refine (HRU.out _).mono ?_); rintro e w' ⟨rfl, rfl⟩))
      | (go_at_call 26; ((with_reducible refine (whole_any _ _ _ _).mono ?_); rintro e w' ⟨rfl, rfl⟩))
      | (go_at_call 11; ((with_reducible refine (HL.out _).mono ?_); rintro e w' ⟨k, rfl, rfl⟩)))
    go_ret
    exact ⟨_, rfl, rfl⟩
  · go_enter Try.func6, Try.ntmps6
    go_wp2_with (first
      | (go_at_call 23; ((with_reducible refine (HF.out _).mono ?_); rintro e w' ⟨k, rfl, rfl⟩))
      | (go_at_call 24; ((with_reducible refine (HC.out _).mono ?_); rintro e w' ⟨k, rfl, rfl⟩))
      | (go_at_call 22; ((with_reducible refine (HM.out _).mono ?_); rintro e w' ⟨rfl, rfl⟩))
      | (go_at_call 25; ((with_reducible refine (HR.out _).mono ?_); rintro e w' ⟨rfl, rfl⟩))
      | (go_at_call 25; ((with_reducible refine (HS.out _).mono ?_); rintro e w' ⟨rfl, rfl⟩))
      | (go_at_call 19; ((with_reducible refine (HRD.out _).mono ?_); rintro e w' ⟨rfl, rfl⟩))
      | (go_at_call 20; ((with_reducible refine (HRU.out _).mono ?_); rintro e w' ⟨rfl, rfl⟩))
      | (go_at_call 26; ((with_reducible refine (whole_any _ _ _ _).mono ?_); rintro e w' ⟨rfl, rfl⟩))
      | (go_at_call 11; ((with_reducible refine (HL.out _).mono ?_); rintro e w' ⟨k, rfl, rfl⟩)))
    go_ret
    exact ⟨_, rfl, rfl⟩

set_option maxRecDepth 100000 in
set_option maxHeartbeats 2000000 in
theorem whole_1_eq (x d u : Nat) (n : Int) (w : World) (hx : x < 18446744073709551616) (hn : (FloatKind.f64.format.order x x != some Ordering.eq) = false)
    (hF : ∀ w, Calls Try.prog 23 #[.float .f64 x] w (DrewI w (floorC x).1 (floorC x).2))
    (hC : ∀ w, Calls Try.prog 24 #[.float .f64 x] w (DrewI w (ceilC x).1 (ceilC x).2))
    (hM : ∀ w, Calls Try.prog 22 #[.float .f64 x, .int .i64 n] w fun e w' => e = .returned (.tuple #[.int .i64 (0), .int .i64 0]) ∧ w = w')
    (hR : ∀ w, Calls Try.prog 25 #[.float .f64 x] w fun e w' => e = .returned (.tuple #[.int .i64 (rfC x).1, .bool (rfC x).2]) ∧ w = w')
    (hS : ∀ w, Calls Try.prog 25 #[.float .f64 (negW x)] w fun e w' => e = .returned (.tuple #[.int .i64 (rfC (negW x)).1, .bool (rfC (negW x)).2]) ∧ w = w')
    (hRD : ∀ w, Calls Try.prog 19 #[.int .i64 n] w fun e w' => e = .returned (.float .f64 d) ∧ w = w')
    (hRU : ∀ w, Calls Try.prog 20 #[.int .i64 n] w fun e w' => e = .returned (.float .f64 u) ∧ w = w')
    (F C : Int) (hf : floorC x = (F, 0)) (hr : rfC x = (F, true)) (hc : ceilC x = (C, 0)) (hs : rfC (negW x) = (-C, true)) (hq : (FloatKind.f64.format.order x 14114281232179134464 == some Ordering.eq) = false) (c0 : -9223372036854775808 < C) (c1 : C < 9223372036854775808)
    (s1 : (FloatKind.f64.format.order u x == some Ordering.gt) = false) (s2 : (FloatKind.f64.format.order d x == some Ordering.gt) = false) (s3 : (FloatKind.f64.format.order d x == some Ordering.lt) = false) (s4 : (FloatKind.f64.format.order u x == some Ordering.lt) = false) (s5 : (FloatKind.f64.format.order d x == some Ordering.eq) = true) (s6 : (FloatKind.f64.format.order u x == some Ordering.eq) = true) :
    Calls Try.prog 6 #[.float .f64 x, .int .i64 n] w (DrewB w true) := by
  have HL := Lib.hid lives_any
  rw [hf] at hF
  rw [hc] at hC
  rw [hr] at hR
  rw [hs] at hS
  have HF := Lib.hid hF; have HC := Lib.hid hC; have HM := Lib.hid hM; have HR := Lib.hid hR; have HS := Lib.hid hS; have HRD := Lib.hid hRD; have HRU := Lib.hid hRU
  clear hF hC hM hR hS hRD hRU hf hc hr hs hx
  have hne : ((-C) == (-9223372036854775808 : Int)) = false := by rw [beq_eq_false_iff_ne]; omega
  go_enter Try.func6, Try.ntmps6
  go_wp2_with (first
      | (go_at_call 23; ((with_reducible refine (HF.out _).mono ?_); rintro e w' ⟨k, rfl, rfl⟩))
      | (go_at_call 24; ((with_reducible refine (HC.out _).mono ?_); rintro e w' ⟨k, rfl, rfl⟩))
      | (go_at_call 22; ((with_reducible refine (HM.out _).mono ?_); rintro e w' ⟨rfl, rfl⟩))
      | (go_at_call 25; ((with_reducible refine (HR.out _).mono ?_); rintro e w' ⟨rfl, rfl⟩))
      | (go_at_call 25; ((with_reducible refine (HS.out _).mono ?_); rintro e w' ⟨rfl, rfl⟩))
      | (go_at_call 19; ((with_reducible refine (HRD.out _).mono ?_); rintro e w' ⟨rfl, rfl⟩))
      | (go_at_call 20; ((with_reducible refine (HRU.out _).mono ?_); rintro e w' ⟨rfl, rfl⟩))
      | (go_at_call 26; ((with_reducible refine (whole_any _ _ _ _).mono ?_); rintro e w' ⟨rfl, rfl⟩))
      | (go_at_call 11; ((with_reducible refine (HL.out _).mono ?_); rintro e w' ⟨k, rfl, rfl⟩)))
  go_ret
  exact ⟨_, rfl, rfl⟩

set_option maxRecDepth 100000 in
set_option maxHeartbeats 2000000 in
theorem whole_1_gt (x d u : Nat) (n : Int) (w : World) (hx : x < 18446744073709551616) (hn : (FloatKind.f64.format.order x x != some Ordering.eq) = false)
    (hF : ∀ w, Calls Try.prog 23 #[.float .f64 x] w (DrewI w (floorC x).1 (floorC x).2))
    (hC : ∀ w, Calls Try.prog 24 #[.float .f64 x] w (DrewI w (ceilC x).1 (ceilC x).2))
    (hM : ∀ w, Calls Try.prog 22 #[.float .f64 x, .int .i64 n] w fun e w' => e = .returned (.tuple #[.int .i64 (1), .int .i64 0]) ∧ w = w')
    (hR : ∀ w, Calls Try.prog 25 #[.float .f64 x] w fun e w' => e = .returned (.tuple #[.int .i64 (rfC x).1, .bool (rfC x).2]) ∧ w = w')
    (hS : ∀ w, Calls Try.prog 25 #[.float .f64 (negW x)] w fun e w' => e = .returned (.tuple #[.int .i64 (rfC (negW x)).1, .bool (rfC (negW x)).2]) ∧ w = w')
    (hRD : ∀ w, Calls Try.prog 19 #[.int .i64 n] w fun e w' => e = .returned (.float .f64 d) ∧ w = w')
    (hRU : ∀ w, Calls Try.prog 20 #[.int .i64 n] w fun e w' => e = .returned (.float .f64 u) ∧ w = w')
    (F C : Int) (hf : floorC x = (F, 0)) (hr : rfC x = (F, true)) (hc : ceilC x = (C, 0)) (hs : rfC (negW x) = (-C, true)) (hq : (FloatKind.f64.format.order x 14114281232179134464 == some Ordering.eq) = false) (c0 : -9223372036854775808 < C) (c1 : C < 9223372036854775808)
    (s1 : (FloatKind.f64.format.order u x == some Ordering.gt) = false) (s2 : (FloatKind.f64.format.order d x == some Ordering.gt) = false) (s3 : (FloatKind.f64.format.order d x == some Ordering.lt) = true) (s5 : (FloatKind.f64.format.order d x == some Ordering.eq) = false) (s7 : (FloatKind.f64.format.order d x == some Ordering.gt || FloatKind.f64.format.order d x == some Ordering.eq) = false) (s8 : (FloatKind.f64.format.order u x == some Ordering.lt || FloatKind.f64.format.order u x == some Ordering.eq) = true) :
    Calls Try.prog 6 #[.float .f64 x, .int .i64 n] w (DrewB w true) := by
  have HL := Lib.hid lives_any
  rw [hf] at hF
  rw [hc] at hC
  rw [hr] at hR
  rw [hs] at hS
  have HF := Lib.hid hF; have HC := Lib.hid hC; have HM := Lib.hid hM; have HR := Lib.hid hR; have HS := Lib.hid hS; have HRD := Lib.hid hRD; have HRU := Lib.hid hRU
  clear hF hC hM hR hS hRD hRU hf hc hr hs hx
  have hne : ((-C) == (-9223372036854775808 : Int)) = false := by rw [beq_eq_false_iff_ne]; omega
  go_enter Try.func6, Try.ntmps6
  go_wp2_with (first
      | (go_at_call 23; ((with_reducible refine (HF.out _).mono ?_); rintro e w' ⟨k, rfl, rfl⟩))
      | (go_at_call 24; ((with_reducible refine (HC.out _).mono ?_); rintro e w' ⟨k, rfl, rfl⟩))
      | (go_at_call 22; ((with_reducible refine (HM.out _).mono ?_); rintro e w' ⟨rfl, rfl⟩))
      | (go_at_call 25; ((with_reducible refine (HR.out _).mono ?_); rintro e w' ⟨rfl, rfl⟩))
      | (go_at_call 25; ((with_reducible refine (HS.out _).mono ?_); rintro e w' ⟨rfl, rfl⟩))
      | (go_at_call 19; ((with_reducible refine (HRD.out _).mono ?_); rintro e w' ⟨rfl, rfl⟩))
      | (go_at_call 20; ((with_reducible refine (HRU.out _).mono ?_); rintro e w' ⟨rfl, rfl⟩))
      | (go_at_call 26; ((with_reducible refine (whole_any _ _ _ _).mono ?_); rintro e w' ⟨rfl, rfl⟩))
      | (go_at_call 11; ((with_reducible refine (HL.out _).mono ?_); rintro e w' ⟨k, rfl, rfl⟩)))
  go_ret
  exact ⟨_, rfl, rfl⟩

set_option maxRecDepth 100000 in
set_option maxHeartbeats 2000000 in
theorem whole_2_lt (x d u : Nat) (n : Int) (w : World) (hx : x < 18446744073709551616) (hn : (FloatKind.f64.format.order x x != some Ordering.eq) = false)
    (hF : ∀ w, Calls Try.prog 23 #[.float .f64 x] w (DrewI w (floorC x).1 (floorC x).2))
    (hC : ∀ w, Calls Try.prog 24 #[.float .f64 x] w (DrewI w (ceilC x).1 (ceilC x).2))
    (hM : ∀ w, Calls Try.prog 22 #[.float .f64 x, .int .i64 n] w fun e w' => e = .returned (.tuple #[.int .i64 (-1), .int .i64 0]) ∧ w = w')
    (hR : ∀ w, Calls Try.prog 25 #[.float .f64 x] w fun e w' => e = .returned (.tuple #[.int .i64 (rfC x).1, .bool (rfC x).2]) ∧ w = w')
    (hS : ∀ w, Calls Try.prog 25 #[.float .f64 (negW x)] w fun e w' => e = .returned (.tuple #[.int .i64 (rfC (negW x)).1, .bool (rfC (negW x)).2]) ∧ w = w')
    (hRD : ∀ w, Calls Try.prog 19 #[.int .i64 n] w fun e w' => e = .returned (.float .f64 d) ∧ w = w')
    (hRU : ∀ w, Calls Try.prog 20 #[.int .i64 n] w fun e w' => e = .returned (.float .f64 u) ∧ w = w')
    (F : Int) (hf : floorC x = (F, 0)) (hr : rfC x = (F, true)) (hc : ceilC x = (-9223372036854775808, 0)) (hs : rfC (negW x) = (0, false)) (hq : (FloatKind.f64.format.order x 14114281232179134464 == some Ordering.eq) = true)
    (s1 : (FloatKind.f64.format.order u x == some Ordering.gt) = true) (s3 : (FloatKind.f64.format.order d x == some Ordering.lt) = false) (s4 : (FloatKind.f64.format.order u x == some Ordering.lt) = false) (s6 : (FloatKind.f64.format.order u x == some Ordering.eq) = false) (s7 : (FloatKind.f64.format.order d x == some Ordering.gt || FloatKind.f64.format.order d x == some Ordering.eq) = true) :
    Calls Try.prog 6 #[.float .f64 x, .int .i64 n] w (DrewB w true) := by
  have HL := Lib.hid lives_any
  rw [hf] at hF
  rw [hc] at hC
  rw [hr] at hR
  rw [hs] at hS
  have HF := Lib.hid hF; have HC := Lib.hid hC; have HM := Lib.hid hM; have HR := Lib.hid hR; have HS := Lib.hid hS; have HRD := Lib.hid hRD; have HRU := Lib.hid hRU
  clear hF hC hM hR hS hRD hRU hf hc hr hs hx
  
  cases s5 : (FloatKind.f64.format.order d x == some Ordering.eq)
  · rw [s5, Bool.or_false] at s7
    go_enter Try.func6, Try.ntmps6
    go_wp2_with (first
      | (go_at_call 23; ((with_reducible refine (HF.out _).mono ?_); rintro e w' ⟨k, rfl, rfl⟩))
      | (go_at_call 24; ((with_reducible refine (HC.out _).mono ?_); rintro e w' ⟨k, rfl, rfl⟩))
      | (go_at_call 22; ((with_reducible refine (HM.out _).mono ?_); rintro e w' ⟨rfl, rfl⟩))
      | (go_at_call 25; ((with_reducible refine (HR.out _).mono ?_); rintro e w' ⟨rfl, rfl⟩))
      | (go_at_call 25; ((with_reducible refine (HS.out _).mono ?_); rintro e w' ⟨rfl, rfl⟩))
      | (go_at_call 19; ((with_reducible refine (HRD.out _).mono ?_); rintro e w' ⟨rfl, rfl⟩))
      | (go_at_call 20; ((with_reducible refine (HRU.out _).mono ?_); rintro e w' ⟨rfl, rfl⟩))
      | (go_at_call 26; ((with_reducible refine (whole_any _ _ _ _).mono ?_); rintro e w' ⟨rfl, rfl⟩))
      | (go_at_call 11; ((with_reducible refine (HL.out _).mono ?_); rintro e w' ⟨k, rfl, rfl⟩)))
    go_ret
    exact ⟨_, rfl, rfl⟩
  · go_enter Try.func6, Try.ntmps6
    go_wp2_with (first
      | (go_at_call 23; ((with_reducible refine (HF.out _).mono ?_); rintro e w' ⟨k, rfl, rfl⟩))
      | (go_at_call 24; ((with_reducible refine (HC.out _).mono ?_); rintro e w' ⟨k, rfl, rfl⟩))
      | (go_at_call 22; ((with_reducible refine (HM.out _).mono ?_); rintro e w' ⟨rfl, rfl⟩))
      | (go_at_call 25; ((with_reducible refine (HR.out _).mono ?_); rintro e w' ⟨rfl, rfl⟩))
      | (go_at_call 25; ((with_reducible refine (HS.out _).mono ?_); rintro e w' ⟨rfl, rfl⟩))
      | (go_at_call 19; ((with_reducible refine (HRD.out _).mono ?_); rintro e w' ⟨rfl, rfl⟩))
      | (go_at_call 20; ((with_reducible refine (HRU.out _).mono ?_); rintro e w' ⟨rfl, rfl⟩))
      | (go_at_call 26; ((with_reducible refine (whole_any _ _ _ _).mono ?_); rintro e w' ⟨rfl, rfl⟩))
      | (go_at_call 11; ((with_reducible refine (HL.out _).mono ?_); rintro e w' ⟨k, rfl, rfl⟩)))
    go_ret
    exact ⟨_, rfl, rfl⟩

set_option maxRecDepth 100000 in
set_option maxHeartbeats 2000000 in
theorem whole_2_eq (x d u : Nat) (n : Int) (w : World) (hx : x < 18446744073709551616) (hn : (FloatKind.f64.format.order x x != some Ordering.eq) = false)
    (hF : ∀ w, Calls Try.prog 23 #[.float .f64 x] w (DrewI w (floorC x).1 (floorC x).2))
    (hC : ∀ w, Calls Try.prog 24 #[.float .f64 x] w (DrewI w (ceilC x).1 (ceilC x).2))
    (hM : ∀ w, Calls Try.prog 22 #[.float .f64 x, .int .i64 n] w fun e w' => e = .returned (.tuple #[.int .i64 (0), .int .i64 0]) ∧ w = w')
    (hR : ∀ w, Calls Try.prog 25 #[.float .f64 x] w fun e w' => e = .returned (.tuple #[.int .i64 (rfC x).1, .bool (rfC x).2]) ∧ w = w')
    (hS : ∀ w, Calls Try.prog 25 #[.float .f64 (negW x)] w fun e w' => e = .returned (.tuple #[.int .i64 (rfC (negW x)).1, .bool (rfC (negW x)).2]) ∧ w = w')
    (hRD : ∀ w, Calls Try.prog 19 #[.int .i64 n] w fun e w' => e = .returned (.float .f64 d) ∧ w = w')
    (hRU : ∀ w, Calls Try.prog 20 #[.int .i64 n] w fun e w' => e = .returned (.float .f64 u) ∧ w = w')
    (F : Int) (hf : floorC x = (F, 0)) (hr : rfC x = (F, true)) (hc : ceilC x = (-9223372036854775808, 0)) (hs : rfC (negW x) = (0, false)) (hq : (FloatKind.f64.format.order x 14114281232179134464 == some Ordering.eq) = true)
    (s1 : (FloatKind.f64.format.order u x == some Ordering.gt) = false) (s2 : (FloatKind.f64.format.order d x == some Ordering.gt) = false) (s3 : (FloatKind.f64.format.order d x == some Ordering.lt) = false) (s4 : (FloatKind.f64.format.order u x == some Ordering.lt) = false) (s5 : (FloatKind.f64.format.order d x == some Ordering.eq) = true) (s6 : (FloatKind.f64.format.order u x == some Ordering.eq) = true) :
    Calls Try.prog 6 #[.float .f64 x, .int .i64 n] w (DrewB w true) := by
  have HL := Lib.hid lives_any
  rw [hf] at hF
  rw [hc] at hC
  rw [hr] at hR
  rw [hs] at hS
  have HF := Lib.hid hF; have HC := Lib.hid hC; have HM := Lib.hid hM; have HR := Lib.hid hR; have HS := Lib.hid hS; have HRD := Lib.hid hRD; have HRU := Lib.hid hRU
  clear hF hC hM hR hS hRD hRU hf hc hr hs hx
  
  go_enter Try.func6, Try.ntmps6
  go_wp2_with (first
      | (go_at_call 23; ((with_reducible refine (HF.out _).mono ?_); rintro e w' ⟨k, rfl, rfl⟩))
      | (go_at_call 24; ((with_reducible refine (HC.out _).mono ?_); rintro e w' ⟨k, rfl, rfl⟩))
      | (go_at_call 22; ((with_reducible refine (HM.out _).mono ?_); rintro e w' ⟨rfl, rfl⟩))
      | (go_at_call 25; ((with_reducible refine (HR.out _).mono ?_); rintro e w' ⟨rfl, rfl⟩))
      | (go_at_call 25; ((with_reducible refine (HS.out _).mono ?_); rintro e w' ⟨rfl, rfl⟩))
      | (go_at_call 19; ((with_reducible refine (HRD.out _).mono ?_); rintro e w' ⟨rfl, rfl⟩))
      | (go_at_call 20; ((with_reducible refine (HRU.out _).mono ?_); rintro e w' ⟨rfl, rfl⟩))
      | (go_at_call 26; ((with_reducible refine (whole_any _ _ _ _).mono ?_); rintro e w' ⟨rfl, rfl⟩))
      | (go_at_call 11; ((with_reducible refine (HL.out _).mono ?_); rintro e w' ⟨k, rfl, rfl⟩)))
  go_ret
  exact ⟨_, rfl, rfl⟩

set_option maxRecDepth 100000 in
set_option maxHeartbeats 2000000 in
theorem whole_2_gt (x d u : Nat) (n : Int) (w : World) (hx : x < 18446744073709551616) (hn : (FloatKind.f64.format.order x x != some Ordering.eq) = false)
    (hF : ∀ w, Calls Try.prog 23 #[.float .f64 x] w (DrewI w (floorC x).1 (floorC x).2))
    (hC : ∀ w, Calls Try.prog 24 #[.float .f64 x] w (DrewI w (ceilC x).1 (ceilC x).2))
    (hM : ∀ w, Calls Try.prog 22 #[.float .f64 x, .int .i64 n] w fun e w' => e = .returned (.tuple #[.int .i64 (1), .int .i64 0]) ∧ w = w')
    (hR : ∀ w, Calls Try.prog 25 #[.float .f64 x] w fun e w' => e = .returned (.tuple #[.int .i64 (rfC x).1, .bool (rfC x).2]) ∧ w = w')
    (hS : ∀ w, Calls Try.prog 25 #[.float .f64 (negW x)] w fun e w' => e = .returned (.tuple #[.int .i64 (rfC (negW x)).1, .bool (rfC (negW x)).2]) ∧ w = w')
    (hRD : ∀ w, Calls Try.prog 19 #[.int .i64 n] w fun e w' => e = .returned (.float .f64 d) ∧ w = w')
    (hRU : ∀ w, Calls Try.prog 20 #[.int .i64 n] w fun e w' => e = .returned (.float .f64 u) ∧ w = w')
    (F : Int) (hf : floorC x = (F, 0)) (hr : rfC x = (F, true)) (hc : ceilC x = (-9223372036854775808, 0)) (hs : rfC (negW x) = (0, false)) (hq : (FloatKind.f64.format.order x 14114281232179134464 == some Ordering.eq) = true)
    (s1 : (FloatKind.f64.format.order u x == some Ordering.gt) = false) (s2 : (FloatKind.f64.format.order d x == some Ordering.gt) = false) (s3 : (FloatKind.f64.format.order d x == some Ordering.lt) = true) (s5 : (FloatKind.f64.format.order d x == some Ordering.eq) = false) (s7 : (FloatKind.f64.format.order d x == some Ordering.gt || FloatKind.f64.format.order d x == some Ordering.eq) = false) (s8 : (FloatKind.f64.format.order u x == some Ordering.lt || FloatKind.f64.format.order u x == some Ordering.eq) = true) :
    Calls Try.prog 6 #[.float .f64 x, .int .i64 n] w (DrewB w true) := by
  have HL := Lib.hid lives_any
  rw [hf] at hF
  rw [hc] at hC
  rw [hr] at hR
  rw [hs] at hS
  have HF := Lib.hid hF; have HC := Lib.hid hC; have HM := Lib.hid hM; have HR := Lib.hid hR; have HS := Lib.hid hS; have HRD := Lib.hid hRD; have HRU := Lib.hid hRU
  clear hF hC hM hR hS hRD hRU hf hc hr hs hx
  
  go_enter Try.func6, Try.ntmps6
  go_wp2_with (first
      | (go_at_call 23; ((with_reducible refine (HF.out _).mono ?_); rintro e w' ⟨k, rfl, rfl⟩))
      | (go_at_call 24; ((with_reducible refine (HC.out _).mono ?_); rintro e w' ⟨k, rfl, rfl⟩))
      | (go_at_call 22; ((with_reducible refine (HM.out _).mono ?_); rintro e w' ⟨rfl, rfl⟩))
      | (go_at_call 25; ((with_reducible refine (HR.out _).mono ?_); rintro e w' ⟨rfl, rfl⟩))
      | (go_at_call 25; ((with_reducible refine (HS.out _).mono ?_); rintro e w' ⟨rfl, rfl⟩))
      | (go_at_call 19; ((with_reducible refine (HRD.out _).mono ?_); rintro e w' ⟨rfl, rfl⟩))
      | (go_at_call 20; ((with_reducible refine (HRU.out _).mono ?_); rintro e w' ⟨rfl, rfl⟩))
      | (go_at_call 26; ((with_reducible refine (whole_any _ _ _ _).mono ?_); rintro e w' ⟨rfl, rfl⟩))
      | (go_at_call 11; ((with_reducible refine (HL.out _).mono ?_); rintro e w' ⟨k, rfl, rfl⟩)))
  go_ret
  exact ⟨_, rfl, rfl⟩

set_option maxRecDepth 100000 in
set_option maxHeartbeats 2000000 in
theorem whole_3_lt (x d u : Nat) (n : Int) (w : World) (hx : x < 18446744073709551616) (hn : (FloatKind.f64.format.order x x != some Ordering.eq) = false)
    (hF : ∀ w, Calls Try.prog 23 #[.float .f64 x] w (DrewI w (floorC x).1 (floorC x).2))
    (hC : ∀ w, Calls Try.prog 24 #[.float .f64 x] w (DrewI w (ceilC x).1 (ceilC x).2))
    (hM : ∀ w, Calls Try.prog 22 #[.float .f64 x, .int .i64 n] w fun e w' => e = .returned (.tuple #[.int .i64 (-1), .int .i64 0]) ∧ w = w')
    (hR : ∀ w, Calls Try.prog 25 #[.float .f64 x] w fun e w' => e = .returned (.tuple #[.int .i64 (rfC x).1, .bool (rfC x).2]) ∧ w = w')
    (hS : ∀ w, Calls Try.prog 25 #[.float .f64 (negW x)] w fun e w' => e = .returned (.tuple #[.int .i64 (rfC (negW x)).1, .bool (rfC (negW x)).2]) ∧ w = w')
    (hRD : ∀ w, Calls Try.prog 19 #[.int .i64 n] w fun e w' => e = .returned (.float .f64 d) ∧ w = w')
    (hRU : ∀ w, Calls Try.prog 20 #[.int .i64 n] w fun e w' => e = .returned (.float .f64 u) ∧ w = w')
    (hf : floorC x = (0, 15)) (hr : rfC x = (0, false)) (hc : ceilC x = (0, 15)) (hs : rfC (negW x) = (0, false)) (hq : (FloatKind.f64.format.order x 14114281232179134464 == some Ordering.eq) = false)
    (s1 : (FloatKind.f64.format.order u x == some Ordering.gt) = true) (s3 : (FloatKind.f64.format.order d x == some Ordering.lt) = false) (s4 : (FloatKind.f64.format.order u x == some Ordering.lt) = false) (s6 : (FloatKind.f64.format.order u x == some Ordering.eq) = false) (s7 : (FloatKind.f64.format.order d x == some Ordering.gt || FloatKind.f64.format.order d x == some Ordering.eq) = true) :
    Calls Try.prog 6 #[.float .f64 x, .int .i64 n] w (DrewB w true) := by
  have HL := Lib.hid lives_any
  rw [hf] at hF
  rw [hc] at hC
  rw [hr] at hR
  rw [hs] at hS
  have HF := Lib.hid hF; have HC := Lib.hid hC; have HM := Lib.hid hM; have HR := Lib.hid hR; have HS := Lib.hid hS; have HRD := Lib.hid hRD; have HRU := Lib.hid hRU
  clear hF hC hM hR hS hRD hRU hf hc hr hs hx
  
  cases s5 : (FloatKind.f64.format.order d x == some Ordering.eq)
  · rw [s5, Bool.or_false] at s7
    go_enter Try.func6, Try.ntmps6
    go_wp2_with (first
      | (go_at_call 23; ((with_reducible refine (HF.out _).mono ?_); rintro e w' ⟨k, rfl, rfl⟩))
      | (go_at_call 24; ((with_reducible refine (HC.out _).mono ?_); rintro e w' ⟨k, rfl, rfl⟩))
      | (go_at_call 22; ((with_reducible refine (HM.out _).mono ?_); rintro e w' ⟨rfl, rfl⟩))
      | (go_at_call 25; ((with_reducible refine (HR.out _).mono ?_); rintro e w' ⟨rfl, rfl⟩))
      | (go_at_call 25; ((with_reducible refine (HS.out _).mono ?_); rintro e w' ⟨rfl, rfl⟩))
      | (go_at_call 19; ((with_reducible refine (HRD.out _).mono ?_); rintro e w' ⟨rfl, rfl⟩))
      | (go_at_call 20; ((with_reducible refine (HRU.out _).mono ?_); rintro e w' ⟨rfl, rfl⟩))
      | (go_at_call 26; ((with_reducible refine (whole_any _ _ _ _).mono ?_); rintro e w' ⟨rfl, rfl⟩))
      | (go_at_call 11; ((with_reducible refine (HL.out _).mono ?_); rintro e w' ⟨k, rfl, rfl⟩)))
    go_ret
    exact ⟨_, rfl, rfl⟩
  · go_enter Try.func6, Try.ntmps6
    go_wp2_with (first
      | (go_at_call 23; ((with_reducible refine (HF.out _).mono ?_); rintro e w' ⟨k, rfl, rfl⟩))
      | (go_at_call 24; ((with_reducible refine (HC.out _).mono ?_); rintro e w' ⟨k, rfl, rfl⟩))
      | (go_at_call 22; ((with_reducible refine (HM.out _).mono ?_); rintro e w' ⟨rfl, rfl⟩))
      | (go_at_call 25; ((with_reducible refine (HR.out _).mono ?_); rintro e w' ⟨rfl, rfl⟩))
      | (go_at_call 25; ((with_reducible refine (HS.out _).mono ?_); rintro e w' ⟨rfl, rfl⟩))
      | (go_at_call 19; ((with_reducible refine (HRD.out _).mono ?_); rintro e w' ⟨rfl, rfl⟩))
      | (go_at_call 20; ((with_reducible refine (HRU.out _).mono ?_); rintro e w' ⟨rfl, rfl⟩))
      | (go_at_call 26; ((with_reducible refine (whole_any _ _ _ _).mono ?_); rintro e w' ⟨rfl, rfl⟩))
      | (go_at_call 11; ((with_reducible refine (HL.out _).mono ?_); rintro e w' ⟨k, rfl, rfl⟩)))
    go_ret
    exact ⟨_, rfl, rfl⟩

set_option maxRecDepth 100000 in
set_option maxHeartbeats 2000000 in
theorem whole_3_eq (x d u : Nat) (n : Int) (w : World) (hx : x < 18446744073709551616) (hn : (FloatKind.f64.format.order x x != some Ordering.eq) = false)
    (hF : ∀ w, Calls Try.prog 23 #[.float .f64 x] w (DrewI w (floorC x).1 (floorC x).2))
    (hC : ∀ w, Calls Try.prog 24 #[.float .f64 x] w (DrewI w (ceilC x).1 (ceilC x).2))
    (hM : ∀ w, Calls Try.prog 22 #[.float .f64 x, .int .i64 n] w fun e w' => e = .returned (.tuple #[.int .i64 (0), .int .i64 0]) ∧ w = w')
    (hR : ∀ w, Calls Try.prog 25 #[.float .f64 x] w fun e w' => e = .returned (.tuple #[.int .i64 (rfC x).1, .bool (rfC x).2]) ∧ w = w')
    (hS : ∀ w, Calls Try.prog 25 #[.float .f64 (negW x)] w fun e w' => e = .returned (.tuple #[.int .i64 (rfC (negW x)).1, .bool (rfC (negW x)).2]) ∧ w = w')
    (hRD : ∀ w, Calls Try.prog 19 #[.int .i64 n] w fun e w' => e = .returned (.float .f64 d) ∧ w = w')
    (hRU : ∀ w, Calls Try.prog 20 #[.int .i64 n] w fun e w' => e = .returned (.float .f64 u) ∧ w = w')
    (hf : floorC x = (0, 15)) (hr : rfC x = (0, false)) (hc : ceilC x = (0, 15)) (hs : rfC (negW x) = (0, false)) (hq : (FloatKind.f64.format.order x 14114281232179134464 == some Ordering.eq) = false)
    (s1 : (FloatKind.f64.format.order u x == some Ordering.gt) = false) (s2 : (FloatKind.f64.format.order d x == some Ordering.gt) = false) (s3 : (FloatKind.f64.format.order d x == some Ordering.lt) = false) (s4 : (FloatKind.f64.format.order u x == some Ordering.lt) = false) (s5 : (FloatKind.f64.format.order d x == some Ordering.eq) = true) (s6 : (FloatKind.f64.format.order u x == some Ordering.eq) = true) :
    Calls Try.prog 6 #[.float .f64 x, .int .i64 n] w (DrewB w true) := by
  have HL := Lib.hid lives_any
  rw [hf] at hF
  rw [hc] at hC
  rw [hr] at hR
  rw [hs] at hS
  have HF := Lib.hid hF; have HC := Lib.hid hC; have HM := Lib.hid hM; have HR := Lib.hid hR; have HS := Lib.hid hS; have HRD := Lib.hid hRD; have HRU := Lib.hid hRU
  clear hF hC hM hR hS hRD hRU hf hc hr hs hx
  
  go_enter Try.func6, Try.ntmps6
  go_wp2_with (first
      | (go_at_call 23; ((with_reducible refine (HF.out _).mono ?_); rintro e w' ⟨k, rfl, rfl⟩))
      | (go_at_call 24; ((with_reducible refine (HC.out _).mono ?_); rintro e w' ⟨k, rfl, rfl⟩))
      | (go_at_call 22; ((with_reducible refine (HM.out _).mono ?_); rintro e w' ⟨rfl, rfl⟩))
      | (go_at_call 25; ((with_reducible refine (HR.out _).mono ?_); rintro e w' ⟨rfl, rfl⟩))
      | (go_at_call 25; ((with_reducible refine (HS.out _).mono ?_); rintro e w' ⟨rfl, rfl⟩))
      | (go_at_call 19; ((with_reducible refine (HRD.out _).mono ?_); rintro e w' ⟨rfl, rfl⟩))
      | (go_at_call 20; ((with_reducible refine (HRU.out _).mono ?_); rintro e w' ⟨rfl, rfl⟩))
      | (go_at_call 26; ((with_reducible refine (whole_any _ _ _ _).mono ?_); rintro e w' ⟨rfl, rfl⟩))
      | (go_at_call 11; ((with_reducible refine (HL.out _).mono ?_); rintro e w' ⟨k, rfl, rfl⟩)))
  go_ret
  exact ⟨_, rfl, rfl⟩

set_option maxRecDepth 100000 in
set_option maxHeartbeats 2000000 in
theorem whole_3_gt (x d u : Nat) (n : Int) (w : World) (hx : x < 18446744073709551616) (hn : (FloatKind.f64.format.order x x != some Ordering.eq) = false)
    (hF : ∀ w, Calls Try.prog 23 #[.float .f64 x] w (DrewI w (floorC x).1 (floorC x).2))
    (hC : ∀ w, Calls Try.prog 24 #[.float .f64 x] w (DrewI w (ceilC x).1 (ceilC x).2))
    (hM : ∀ w, Calls Try.prog 22 #[.float .f64 x, .int .i64 n] w fun e w' => e = .returned (.tuple #[.int .i64 (1), .int .i64 0]) ∧ w = w')
    (hR : ∀ w, Calls Try.prog 25 #[.float .f64 x] w fun e w' => e = .returned (.tuple #[.int .i64 (rfC x).1, .bool (rfC x).2]) ∧ w = w')
    (hS : ∀ w, Calls Try.prog 25 #[.float .f64 (negW x)] w fun e w' => e = .returned (.tuple #[.int .i64 (rfC (negW x)).1, .bool (rfC (negW x)).2]) ∧ w = w')
    (hRD : ∀ w, Calls Try.prog 19 #[.int .i64 n] w fun e w' => e = .returned (.float .f64 d) ∧ w = w')
    (hRU : ∀ w, Calls Try.prog 20 #[.int .i64 n] w fun e w' => e = .returned (.float .f64 u) ∧ w = w')
    (hf : floorC x = (0, 15)) (hr : rfC x = (0, false)) (hc : ceilC x = (0, 15)) (hs : rfC (negW x) = (0, false)) (hq : (FloatKind.f64.format.order x 14114281232179134464 == some Ordering.eq) = false)
    (s1 : (FloatKind.f64.format.order u x == some Ordering.gt) = false) (s2 : (FloatKind.f64.format.order d x == some Ordering.gt) = false) (s3 : (FloatKind.f64.format.order d x == some Ordering.lt) = true) (s5 : (FloatKind.f64.format.order d x == some Ordering.eq) = false) (s7 : (FloatKind.f64.format.order d x == some Ordering.gt || FloatKind.f64.format.order d x == some Ordering.eq) = false) (s8 : (FloatKind.f64.format.order u x == some Ordering.lt || FloatKind.f64.format.order u x == some Ordering.eq) = true) :
    Calls Try.prog 6 #[.float .f64 x, .int .i64 n] w (DrewB w true) := by
  have HL := Lib.hid lives_any
  rw [hf] at hF
  rw [hc] at hC
  rw [hr] at hR
  rw [hs] at hS
  have HF := Lib.hid hF; have HC := Lib.hid hC; have HM := Lib.hid hM; have HR := Lib.hid hR; have HS := Lib.hid hS; have HRD := Lib.hid hRD; have HRU := Lib.hid hRU
  clear hF hC hM hR hS hRD hRU hf hc hr hs hx
  
  go_enter Try.func6, Try.ntmps6
  go_wp2_with (first
      | (go_at_call 23; ((with_reducible refine (HF.out _).mono ?_); rintro e w' ⟨k, rfl, rfl⟩))
      | (go_at_call 24; ((with_reducible refine (HC.out _).mono ?_); rintro e w' ⟨k, rfl, rfl⟩))
      | (go_at_call 22; ((with_reducible refine (HM.out _).mono ?_); rintro e w' ⟨rfl, rfl⟩))
      | (go_at_call 25; ((with_reducible refine (HR.out _).mono ?_); rintro e w' ⟨rfl, rfl⟩))
      | (go_at_call 25; ((with_reducible refine (HS.out _).mono ?_); rintro e w' ⟨rfl, rfl⟩))
      | (go_at_call 19; ((with_reducible refine (HRD.out _).mono ?_); rintro e w' ⟨rfl, rfl⟩))
      | (go_at_call 20; ((with_reducible refine (HRU.out _).mono ?_); rintro e w' ⟨rfl, rfl⟩))
      | (go_at_call 26; ((with_reducible refine (whole_any _ _ _ _).mono ?_); rintro e w' ⟨rfl, rfl⟩))
      | (go_at_call 11; ((with_reducible refine (HL.out _).mono ?_); rintro e w' ⟨k, rfl, rfl⟩)))
  go_ret
  exact ⟨_, rfl, rfl⟩

set_option maxRecDepth 100000 in
set_option maxHeartbeats 2000000 in
theorem whole_4_lt (x d u : Nat) (n : Int) (w : World) (hx : x < 18446744073709551616) (hn : (FloatKind.f64.format.order x x != some Ordering.eq) = false)
    (hF : ∀ w, Calls Try.prog 23 #[.float .f64 x] w (DrewI w (floorC x).1 (floorC x).2))
    (hC : ∀ w, Calls Try.prog 24 #[.float .f64 x] w (DrewI w (ceilC x).1 (ceilC x).2))
    (hM : ∀ w, Calls Try.prog 22 #[.float .f64 x, .int .i64 n] w fun e w' => e = .returned (.tuple #[.int .i64 (-1), .int .i64 0]) ∧ w = w')
    (hR : ∀ w, Calls Try.prog 25 #[.float .f64 x] w fun e w' => e = .returned (.tuple #[.int .i64 (rfC x).1, .bool (rfC x).2]) ∧ w = w')
    (hS : ∀ w, Calls Try.prog 25 #[.float .f64 (negW x)] w fun e w' => e = .returned (.tuple #[.int .i64 (rfC (negW x)).1, .bool (rfC (negW x)).2]) ∧ w = w')
    (hRD : ∀ w, Calls Try.prog 19 #[.int .i64 n] w fun e w' => e = .returned (.float .f64 d) ∧ w = w')
    (hRU : ∀ w, Calls Try.prog 20 #[.int .i64 n] w fun e w' => e = .returned (.float .f64 u) ∧ w = w')
    (hf : floorC x = (0, 15)) (hr : rfC x = (0, false)) (hc : ceilC x = (0, 15)) (hs : rfC (negW x) = (-9223372036854775808, true)) (hq : (FloatKind.f64.format.order x 14114281232179134464 == some Ordering.eq) = false)
    (s1 : (FloatKind.f64.format.order u x == some Ordering.gt) = true) (s3 : (FloatKind.f64.format.order d x == some Ordering.lt) = false) (s4 : (FloatKind.f64.format.order u x == some Ordering.lt) = false) (s6 : (FloatKind.f64.format.order u x == some Ordering.eq) = false) (s7 : (FloatKind.f64.format.order d x == some Ordering.gt || FloatKind.f64.format.order d x == some Ordering.eq) = true) :
    Calls Try.prog 6 #[.float .f64 x, .int .i64 n] w (DrewB w true) := by
  have HL := Lib.hid lives_any
  rw [hf] at hF
  rw [hc] at hC
  rw [hr] at hR
  rw [hs] at hS
  have HF := Lib.hid hF; have HC := Lib.hid hC; have HM := Lib.hid hM; have HR := Lib.hid hR; have HS := Lib.hid hS; have HRD := Lib.hid hRD; have HRU := Lib.hid hRU
  clear hF hC hM hR hS hRD hRU hf hc hr hs hx
  
  cases s5 : (FloatKind.f64.format.order d x == some Ordering.eq)
  · rw [s5, Bool.or_false] at s7
    go_enter Try.func6, Try.ntmps6
    go_wp2_with (first
      | (go_at_call 23; ((with_reducible refine (HF.out _).mono ?_); rintro e w' ⟨k, rfl, rfl⟩))
      | (go_at_call 24; ((with_reducible refine (HC.out _).mono ?_); rintro e w' ⟨k, rfl, rfl⟩))
      | (go_at_call 22; ((with_reducible refine (HM.out _).mono ?_); rintro e w' ⟨rfl, rfl⟩))
      | (go_at_call 25; ((with_reducible refine (HR.out _).mono ?_); rintro e w' ⟨rfl, rfl⟩))
      | (go_at_call 25; ((with_reducible refine (HS.out _).mono ?_); rintro e w' ⟨rfl, rfl⟩))
      | (go_at_call 19; ((with_reducible refine (HRD.out _).mono ?_); rintro e w' ⟨rfl, rfl⟩))
      | (go_at_call 20; ((with_reducible refine (HRU.out _).mono ?_); rintro e w' ⟨rfl, rfl⟩))
      | (go_at_call 26; ((with_reducible refine (whole_any _ _ _ _).mono ?_); rintro e w' ⟨rfl, rfl⟩))
      | (go_at_call 11; ((with_reducible refine (HL.out _).mono ?_); rintro e w' ⟨k, rfl, rfl⟩)))
    go_ret
    exact ⟨_, rfl, rfl⟩
  · go_enter Try.func6, Try.ntmps6
    go_wp2_with (first
      | (go_at_call 23; ((with_reducible refine (HF.out _).mono ?_); rintro e w' ⟨k, rfl, rfl⟩))
      | (go_at_call 24; ((with_reducible refine (HC.out _).mono ?_); rintro e w' ⟨k, rfl, rfl⟩))
      | (go_at_call 22; ((with_reducible refine (HM.out _).mono ?_); rintro e w' ⟨rfl, rfl⟩))
      | (go_at_call 25; ((with_reducible refine (HR.out _).mono ?_); rintro e w' ⟨rfl, rfl⟩))
      | (go_at_call 25; ((with_reducible refine (HS.out _).mono ?_); rintro e w' ⟨rfl, rfl⟩))
      | (go_at_call 19; ((with_reducible refine (HRD.out _).mono ?_); rintro e w' ⟨rfl, rfl⟩))
      | (go_at_call 20; ((with_reducible refine (HRU.out _).mono ?_); rintro e w' ⟨rfl, rfl⟩))
      | (go_at_call 26; ((with_reducible refine (whole_any _ _ _ _).mono ?_); rintro e w' ⟨rfl, rfl⟩))
      | (go_at_call 11; ((with_reducible refine (HL.out _).mono ?_); rintro e w' ⟨k, rfl, rfl⟩)))
    go_ret
    exact ⟨_, rfl, rfl⟩

set_option maxRecDepth 100000 in
set_option maxHeartbeats 2000000 in
theorem whole_4_eq (x d u : Nat) (n : Int) (w : World) (hx : x < 18446744073709551616) (hn : (FloatKind.f64.format.order x x != some Ordering.eq) = false)
    (hF : ∀ w, Calls Try.prog 23 #[.float .f64 x] w (DrewI w (floorC x).1 (floorC x).2))
    (hC : ∀ w, Calls Try.prog 24 #[.float .f64 x] w (DrewI w (ceilC x).1 (ceilC x).2))
    (hM : ∀ w, Calls Try.prog 22 #[.float .f64 x, .int .i64 n] w fun e w' => e = .returned (.tuple #[.int .i64 (0), .int .i64 0]) ∧ w = w')
    (hR : ∀ w, Calls Try.prog 25 #[.float .f64 x] w fun e w' => e = .returned (.tuple #[.int .i64 (rfC x).1, .bool (rfC x).2]) ∧ w = w')
    (hS : ∀ w, Calls Try.prog 25 #[.float .f64 (negW x)] w fun e w' => e = .returned (.tuple #[.int .i64 (rfC (negW x)).1, .bool (rfC (negW x)).2]) ∧ w = w')
    (hRD : ∀ w, Calls Try.prog 19 #[.int .i64 n] w fun e w' => e = .returned (.float .f64 d) ∧ w = w')
    (hRU : ∀ w, Calls Try.prog 20 #[.int .i64 n] w fun e w' => e = .returned (.float .f64 u) ∧ w = w')
    (hf : floorC x = (0, 15)) (hr : rfC x = (0, false)) (hc : ceilC x = (0, 15)) (hs : rfC (negW x) = (-9223372036854775808, true)) (hq : (FloatKind.f64.format.order x 14114281232179134464 == some Ordering.eq) = false)
    (s1 : (FloatKind.f64.format.order u x == some Ordering.gt) = false) (s2 : (FloatKind.f64.format.order d x == some Ordering.gt) = false) (s3 : (FloatKind.f64.format.order d x == some Ordering.lt) = false) (s4 : (FloatKind.f64.format.order u x == some Ordering.lt) = false) (s5 : (FloatKind.f64.format.order d x == some Ordering.eq) = true) (s6 : (FloatKind.f64.format.order u x == some Ordering.eq) = true) :
    Calls Try.prog 6 #[.float .f64 x, .int .i64 n] w (DrewB w true) := by
  have HL := Lib.hid lives_any
  rw [hf] at hF
  rw [hc] at hC
  rw [hr] at hR
  rw [hs] at hS
  have HF := Lib.hid hF; have HC := Lib.hid hC; have HM := Lib.hid hM; have HR := Lib.hid hR; have HS := Lib.hid hS; have HRD := Lib.hid hRD; have HRU := Lib.hid hRU
  clear hF hC hM hR hS hRD hRU hf hc hr hs hx
  
  go_enter Try.func6, Try.ntmps6
  go_wp2_with (first
      | (go_at_call 23; ((with_reducible refine (HF.out _).mono ?_); rintro e w' ⟨k, rfl, rfl⟩))
      | (go_at_call 24; ((with_reducible refine (HC.out _).mono ?_); rintro e w' ⟨k, rfl, rfl⟩))
      | (go_at_call 22; ((with_reducible refine (HM.out _).mono ?_); rintro e w' ⟨rfl, rfl⟩))
      | (go_at_call 25; ((with_reducible refine (HR.out _).mono ?_); rintro e w' ⟨rfl, rfl⟩))
      | (go_at_call 25; ((with_reducible refine (HS.out _).mono ?_); rintro e w' ⟨rfl, rfl⟩))
      | (go_at_call 19; ((with_reducible refine (HRD.out _).mono ?_); rintro e w' ⟨rfl, rfl⟩))
      | (go_at_call 20; ((with_reducible refine (HRU.out _).mono ?_); rintro e w' ⟨rfl, rfl⟩))
      | (go_at_call 26; ((with_reducible refine (whole_any _ _ _ _).mono ?_); rintro e w' ⟨rfl, rfl⟩))
      | (go_at_call 11; ((with_reducible refine (HL.out _).mono ?_); rintro e w' ⟨k, rfl, rfl⟩)))
  go_ret
  exact ⟨_, rfl, rfl⟩

set_option maxRecDepth 100000 in
set_option maxHeartbeats 2000000 in
theorem whole_4_gt (x d u : Nat) (n : Int) (w : World) (hx : x < 18446744073709551616) (hn : (FloatKind.f64.format.order x x != some Ordering.eq) = false)
    (hF : ∀ w, Calls Try.prog 23 #[.float .f64 x] w (DrewI w (floorC x).1 (floorC x).2))
    (hC : ∀ w, Calls Try.prog 24 #[.float .f64 x] w (DrewI w (ceilC x).1 (ceilC x).2))
    (hM : ∀ w, Calls Try.prog 22 #[.float .f64 x, .int .i64 n] w fun e w' => e = .returned (.tuple #[.int .i64 (1), .int .i64 0]) ∧ w = w')
    (hR : ∀ w, Calls Try.prog 25 #[.float .f64 x] w fun e w' => e = .returned (.tuple #[.int .i64 (rfC x).1, .bool (rfC x).2]) ∧ w = w')
    (hS : ∀ w, Calls Try.prog 25 #[.float .f64 (negW x)] w fun e w' => e = .returned (.tuple #[.int .i64 (rfC (negW x)).1, .bool (rfC (negW x)).2]) ∧ w = w')
    (hRD : ∀ w, Calls Try.prog 19 #[.int .i64 n] w fun e w' => e = .returned (.float .f64 d) ∧ w = w')
    (hRU : ∀ w, Calls Try.prog 20 #[.int .i64 n] w fun e w' => e = .returned (.float .f64 u) ∧ w = w')
    (hf : floorC x = (0, 15)) (hr : rfC x = (0, false)) (hc : ceilC x = (0, 15)) (hs : rfC (negW x) = (-9223372036854775808, true)) (hq : (FloatKind.f64.format.order x 14114281232179134464 == some Ordering.eq) = false)
    (s1 : (FloatKind.f64.format.order u x == some Ordering.gt) = false) (s2 : (FloatKind.f64.format.order d x == some Ordering.gt) = false) (s3 : (FloatKind.f64.format.order d x == some Ordering.lt) = true) (s5 : (FloatKind.f64.format.order d x == some Ordering.eq) = false) (s7 : (FloatKind.f64.format.order d x == some Ordering.gt || FloatKind.f64.format.order d x == some Ordering.eq) = false) (s8 : (FloatKind.f64.format.order u x == some Ordering.lt || FloatKind.f64.format.order u x == some Ordering.eq) = true) :
    Calls Try.prog 6 #[.float .f64 x, .int .i64 n] w (DrewB w true) := by
  have HL := Lib.hid lives_any
  rw [hf] at hF
  rw [hc] at hC
  rw [hr] at hR
  rw [hs] at hS
  have HF := Lib.hid hF; have HC := Lib.hid hC; have HM := Lib.hid hM; have HR := Lib.hid hR; have HS := Lib.hid hS; have HRD := Lib.hid hRD; have HRU := Lib.hid hRU
  clear hF hC hM hR hS hRD hRU hf hc hr hs hx
  
  go_enter Try.func6, Try.ntmps6
  go_wp2_with (first
      | (go_at_call 23; ((with_reducible refine (HF.out _).mono ?_); rintro e w' ⟨k, rfl, rfl⟩))
      | (go_at_call 24; ((with_reducible refine (HC.out _).mono ?_); rintro e w' ⟨k, rfl, rfl⟩))
      | (go_at_call 22; ((with_reducible refine (HM.out _).mono ?_); rintro e w' ⟨rfl, rfl⟩))
      | (go_at_call 25; ((with_reducible refine (HR.out _).mono ?_); rintro e w' ⟨rfl, rfl⟩))
      | (go_at_call 25; ((with_reducible refine (HS.out _).mono ?_); rintro e w' ⟨rfl, rfl⟩))
      | (go_at_call 19; ((with_reducible refine (HRD.out _).mono ?_); rintro e w' ⟨rfl, rfl⟩))
      | (go_at_call 20; ((with_reducible refine (HRU.out _).mono ?_); rintro e w' ⟨rfl, rfl⟩))
      | (go_at_call 26; ((with_reducible refine (whole_any _ _ _ _).mono ?_); rintro e w' ⟨rfl, rfl⟩))
      | (go_at_call 11; ((with_reducible refine (HL.out _).mono ?_); rintro e w' ⟨k, rfl, rfl⟩)))
  go_ret
  exact ⟨_, rfl, rfl⟩

theorem lawWhole (x : Nat) (n : Int) (w : World) (hx : x < 18446744073709551616) (l0 : -9223372036854775808 ≤ n) (l1 : n < 9223372036854775808) :
    Calls Try.prog 6 #[.float .f64 x, .int .i64 n] w (DrewB w true) := by
  cases hn : nan x
  rotate_left
  · exact lawWhole_nan x n w hx l0 l1 hn
  have h1 := ne_self hx
  rw [hn] at h1
  have hF := fun w => floor_any x w hx
  have hC := fun w => ceil_any x w hx
  have hM := fun w => cmp_any x n w hx l0 l1
  have hR := fun w => rfloor_any x w hx hn
  have hS := fun w => rfloor_any (negW x) w (negW_lt hx) (by rw [nan_negW hx]; exact hn)
  have hRD := fun w => rdown_any n w l0 l1
  have hRU := fun w => rup_any n w l0 l1
  have hm : cmpC x n = (cmpI (vl x) (n * (U : Int)), 0) := by unfold cmpC; rw [hn]; rfl
  obtain ⟨t1, t2, t3, t4, t5, t6, t7⟩ := side_cases hx hn l0 l1
  rcases Int.lt_trichotomy (vl x) (n * (U : Int)) with c | c | c
  · rw [decide_eq_true c] at t1
    rw [decide_eq_false (by omega)] at t3 t4
    rw [Bool.false_and] at t4
    rw [hm, ← cmpI_lt c] at hM
    obtain ⟨s6, s7⟩ := t6 c
    rcases whole_cases hx hn with ⟨F, C, a1, a2, a3, a4, a5, a6, a7⟩ | ⟨F, a1, a2, a3, a4, a5⟩ | ⟨a1, a2, a3, a4, a5⟩ | ⟨a1, a2, a3, a4, a5⟩
    · exact whole_1_lt x _ _ n w hx h1 hF hC hM hR hS hRD hRU F C a1 a2 a3 a4 a5 a6 a7 t1 t3 t4 s6 s7
    · exact whole_2_lt x _ _ n w hx h1 hF hC hM hR hS hRD hRU F a1 a2 a3 a4 a5 t1 t3 t4 s6 s7
    · exact whole_3_lt x _ _ n w hx h1 hF hC hM hR hS hRD hRU a1 a2 a3 a4 a5 t1 t3 t4 s6 s7
    · exact whole_4_lt x _ _ n w hx h1 hF hC hM hR hS hRD hRU a1 a2 a3 a4 a5 t1 t3 t4 s6 s7
  · rw [decide_eq_false (by omega)] at t1 t2 t3 t4
    rw [Bool.false_and] at t2 t4
    rw [hm, c, cmpI_self] at hM
    obtain ⟨s5, s6⟩ := t5 c.symm
    rcases whole_cases hx hn with ⟨F, C, a1, a2, a3, a4, a5, a6, a7⟩ | ⟨F, a1, a2, a3, a4, a5⟩ | ⟨a1, a2, a3, a4, a5⟩ | ⟨a1, a2, a3, a4, a5⟩
    · exact whole_1_eq x _ _ n w hx h1 hF hC hM hR hS hRD hRU F C a1 a2 a3 a4 a5 a6 a7 t1 t2 t3 t4 s5 s6
    · exact whole_2_eq x _ _ n w hx h1 hF hC hM hR hS hRD hRU F a1 a2 a3 a4 a5 t1 t2 t3 t4 s5 s6
    · exact whole_3_eq x _ _ n w hx h1 hF hC hM hR hS hRD hRU a1 a2 a3 a4 a5 t1 t2 t3 t4 s5 s6
    · exact whole_4_eq x _ _ n w hx h1 hF hC hM hR hS hRD hRU a1 a2 a3 a4 a5 t1 t2 t3 t4 s5 s6
  · rw [decide_eq_false (by omega)] at t1 t2
    rw [decide_eq_true c] at t3
    rw [Bool.false_and] at t2
    rw [hm, ← cmpI_gt c] at hM
    obtain ⟨s5, s7, s8⟩ := t7 c
    rcases whole_cases hx hn with ⟨F, C, a1, a2, a3, a4, a5, a6, a7⟩ | ⟨F, a1, a2, a3, a4, a5⟩ | ⟨a1, a2, a3, a4, a5⟩ | ⟨a1, a2, a3, a4, a5⟩
    · exact whole_1_gt x _ _ n w hx h1 hF hC hM hR hS hRD hRU F C a1 a2 a3 a4 a5 a6 a7 t1 t2 t3 s5 s7 s8
    · exact whole_2_gt x _ _ n w hx h1 hF hC hM hR hS hRD hRU F a1 a2 a3 a4 a5 t1 t2 t3 s5 s7 s8
    · exact whole_3_gt x _ _ n w hx h1 hF hC hM hR hS hRD hRU a1 a2 a3 a4 a5 t1 t2 t3 s5 s7 s8
    · exact whole_4_gt x _ _ n w hx h1 hF hC hM hR hS hRD hRU a1 a2 a3 a4 a5 t1 t2 t3 s5 s7 s8
end Fl
end Go.Proofs.Ytjcjffakemcalaa
