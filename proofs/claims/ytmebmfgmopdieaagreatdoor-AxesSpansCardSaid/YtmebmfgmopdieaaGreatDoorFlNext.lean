/- THE WALKS of layer 2: Next and Prev, classes, the small tests of the statements. -/
import Derived.Test.YtmebmfgmopdieaaGreatDoorFlLeaf
set_option linter.unusedSimpArgs false
set_option linter.unusedVariables false
namespace Go.Proofs.YtmebmfgmopdieaaGreatDoor
open Go.RowKit
namespace Fl
theorem ret2_fi {x y : Nat} {a b : Int} {k : IntKind} (h : x = y) (h2 : a = b) : Ending.returned (.tuple #[.float .f64 x, .int k a]) = .returned (.tuple #[.float .f64 y, .int k b]) := by rw [h, h2]
theorem ret2_fb {x y : Nat} {a b : Bool} (h : x = y) (h2 : a = b) : Ending.returned (.tuple #[.float .f64 x, .bool a]) = .returned (.tuple #[.float .f64 y, .bool b]) := by rw [h, h2]

theorem ky_inf : ky 9218868437227405312 = 18442240474082181120 := by decide
theorem ky_ninf : ky 18442240474082181120 = 4503599627370495 := by decide

theorem next_any (x : Nat) (w : World) (hx : x < 18446744073709551616) :
    Calls Tryz.prog 59 #[.float .f64 x] w fun e w' => e = .returned (.tuple #[.float .f64 (nxt x).1, .int .i64 (nxt x).2]) ∧ w = w' := by
  have hl := ky_lt hx
  by_cases h : ky x < 18442240474082181120
  · have h1 : (ky x : Int) < (ky 9218868437227405312 : Int) := by rw [ky_inf]; omega
    have h2 : IntKind.u64.wrap ((ky x : Int) + 1) = ((ky x + 1 : Nat) : Int) := by rw [IntKind.wrap_u64]; omega
    have e : nxt x = (atN (ky x + 1), 0) := by unfold nxt; rw [if_pos h]
    have g0 : 0 ≤ ((ky x + 1 : Nat) : Int) := by omega
    have g1 : ((ky x + 1 : Nat) : Int) < 18446744073709551616 := by omega
    have E := Lib.hid e; have G0 := Lib.hid g0; have G1 := Lib.hid g1; clear e hl h g0 g1
    go_enter Tryz.func59, Tryz.ntmps59
    go_wp2_with (first | (go_at_call 81; refine (key_any _ _ (by first | assumption | decide)).mono ?_; rintro e w' ⟨rfl, rfl⟩) | (go_at_call 21; refine (inf_pos _ _ (by decide)).mono ?_; rintro e w' ⟨rfl, rfl⟩) | (go_at_call 85; refine (at_any _ _ G0.out G1.out).mono ?_; rintro e w' ⟨rfl, rfl⟩))
    go_ret2
    exact ⟨ret2_fi (by rw [E.out]) (by rw [E.out]), rfl⟩
  · have h1 : ¬ (ky x : Int) < (ky 9218868437227405312 : Int) := by rw [ky_inf]; omega
    have e : nxt x = (0, 16) := by unfold nxt; rw [if_neg h]
    have E := Lib.hid e; clear e hl h
    go_enter Tryz.func59, Tryz.ntmps59
    go_wp2_with (first | (go_at_call 81; refine (key_any _ _ (by first | assumption | decide)).mono ?_; rintro e w' ⟨rfl, rfl⟩) | (go_at_call 21; refine (inf_pos _ _ (by decide)).mono ?_; rintro e w' ⟨rfl, rfl⟩))
    go_ret2
    exact ⟨ret2_fi (by rw [E.out]) (by rw [E.out]), rfl⟩

theorem prev_any (x : Nat) (w : World) (hx : x < 18446744073709551616) :
    Calls Tryz.prog 58 #[.float .f64 x] w fun e w' => e = .returned (.tuple #[.float .f64 (prv x).1, .int .i64 (prv x).2]) ∧ w = w' := by
  have hl := ky_lt hx
  by_cases h0 : ky x = 18446744073709551615
  · have h1 : ((ky x : Int) != 18446744073709551615) = false := by rw [h0]; decide
    have e : prv x = (0, 16) := by unfold prv; rw [if_neg (by omega)]
    have E := Lib.hid e; clear e hl h0
    go_enter Tryz.func58, Tryz.ntmps58
    go_wp2_with (first | (go_at_call 81; refine (key_any _ _ (by first | assumption | decide)).mono ?_; rintro e w' ⟨rfl, rfl⟩) | (go_at_call 21; refine (inf_neg _ _ (by decide)).mono ?_; rintro e w' ⟨rfl, rfl⟩))
    go_ret2
    exact ⟨ret2_fi (by rw [E.out]) (by rw [E.out]), rfl⟩
  · have h1 : ((ky x : Int) != 18446744073709551615) = true := by rw [bne_iff_ne]; omega
    by_cases h : 4503599627370495 < ky x
    · have h3 : (ky 18442240474082181120 : Int) < (ky x : Int) := by rw [ky_ninf]; omega
      have h2 : IntKind.u64.wrap ((ky x : Int) - 1) = ((ky x - 1 : Nat) : Int) := by rw [IntKind.wrap_u64]; omega
      have e : prv x = (atN (ky x - 1), 0) := by unfold prv; rw [if_pos ⟨h0, h⟩]
      have g0 : 0 ≤ ((ky x - 1 : Nat) : Int) := by omega
      have g1 : ((ky x - 1 : Nat) : Int) < 18446744073709551616 := by omega
      have E := Lib.hid e; have G0 := Lib.hid g0; have G1 := Lib.hid g1; clear e hl h g0 g1 h0
      go_enter Tryz.func58, Tryz.ntmps58
      go_wp2_with (first | (go_at_call 81; refine (key_any _ _ (by first | assumption | decide)).mono ?_; rintro e w' ⟨rfl, rfl⟩) | (go_at_call 21; refine (inf_neg _ _ (by decide)).mono ?_; rintro e w' ⟨rfl, rfl⟩) | (go_at_call 85; refine (at_any _ _ G0.out G1.out).mono ?_; rintro e w' ⟨rfl, rfl⟩))
      go_ret2
      exact ⟨ret2_fi (by rw [E.out]) (by rw [E.out]), rfl⟩
    · have h3 : ¬ (ky 18442240474082181120 : Int) < (ky x : Int) := by rw [ky_ninf]; omega
      have e : prv x = (0, 16) := by unfold prv; rw [if_neg (by omega)]
      have E := Lib.hid e; clear e hl h h0
      go_enter Tryz.func58, Tryz.ntmps58
      go_wp2_with (first | (go_at_call 81; refine (key_any _ _ (by first | assumption | decide)).mono ?_; rintro e w' ⟨rfl, rfl⟩) | (go_at_call 21; refine (inf_neg _ _ (by decide)).mono ?_; rintro e w' ⟨rfl, rfl⟩))
      go_ret2
      exact ⟨ret2_fi (by rw [E.out]) (by rw [E.out]), rfl⟩

theorem lt_zero {x : Nat} (hx : x < 18446744073709551616) (hn : nan x = false) (h0 : x ≠ 9223372036854775808) : (FloatKind.f64.format.order x 0 == some Ordering.lt) = decide (9223372036854775808 ≤ x) := by
  rw [f_num hx (by omega) hn (by decide)]
  have e0 : vl 0 = 0 := by decide
  rw [e0]
  have e := vl_eq hx
  by_cases h : 9223372036854775808 ≤ x
  · have hm := mg_mono (show 0 < x % 9223372036854775808 from by omega)
    rw [mg_zero] at hm
    rw [decide_eq_true h] at e ⊢
    rw [if_pos rfl] at e
    have : compare (vl x) 0 = .lt := by rw [Int.compare_eq_lt]; omega
    rw [this]; rfl
  · rw [decide_eq_false h] at e ⊢
    rw [if_neg (by decide)] at e
    have : compare (vl x) 0 ≠ .lt := by rw [Ne, Int.compare_eq_lt]; omega
    simpa using this

end Fl
end Go.Proofs.YtmebmfgmopdieaaGreatDoor
