/- THE WALKS of layer 2's leaves: keys, comparisons of words, Next and Prev, in the program and in the reference. -/
import Derived.Test.YtmebmfgmopdieaaGreatDoorRows
import Derived.WalkKit
import Derived.WalkSpells
import Derived.WalkLawsBesides
import Derived.Lib.Hide
import Derived.Test.YtmebmfgmopdieaaGreatDoorFlSpec
set_option linter.unusedSimpArgs false
set_option linter.unusedVariables false
namespace Go.Proofs.YtmebmfgmopdieaaGreatDoor
open Go.RowKit
namespace Fl
theorem ri {k : IntKind} {a b : Int} (h : a = b) : Ending.returned (.int k a) = .returned (.int k b) := by rw [h]
theorem rf {k : FloatKind} {a b : Nat} (h : a = b) : Ending.returned (.float k a) = .returned (.float k b) := by rw [h]
theorem rb {a b : Bool} (h : a = b) : Ending.returned (.bool a) = .returned (.bool b) := by rw [h]
theorem cmpI_lt {a b : Int} (h : a < b) : -1 = cmpI a b := by unfold cmpI; rw [if_pos h]
theorem cmpI_gt {a b : Int} (h : b < a) : 1 = cmpI a b := by unfold cmpI; rw [if_neg (by omega), if_pos h]
theorem cmpI_eq {a b : Int} (h : a ≤ b) (h2 : b ≤ a) : 0 = cmpI a b := by unfold cmpI; rw [if_neg (by omega), if_neg (by omega)]
@[go_sem] theorem run_bits (x : Nat) (w : World) : (callFunc 51 #[.float .f64 x]).run Tryz.prog w = .ok (.value (.int .u64 x)) w := by kernel_rfl
@[go_sem] theorem run_from (x : Int) (w : World) : (callFunc 50 #[.int .u64 x]).run Tryz.prog w = .ok (.value (.float .f64 x.toNat)) w := by kernel_rfl

@[go_sem] theorem unary_negf (x : Nat) : Op.unary .neg (Value.float .f64 x) = pure (Value.float .f64 (negW x)) := by
  have h : ∀ y, y = x → Op.unary .neg (Value.float .f64 y) = pure (Value.float .f64 (negW x)) := by
    intro y hy; subst hy; rfl
  exact h x rfl

theorem cmpU (a b : Int) (w : World) :
    Calls Tryz.prog 80 #[.int .u64 a, .int .u64 b] w fun e w' => e = .returned (.int .i64 (cmpI a b)) ∧ w = w' := by
  go_enter Tryz.func80, Tryz.ntmps80
  go_wp2
  all_goals go_ret
  · exact ⟨ri (cmpI_lt (by assumption)), rfl⟩
  · exact ⟨ri (cmpI_gt (by assumption)), rfl⟩
  · exact ⟨ri (cmpI_eq (by assumption) (by assumption)), rfl⟩

theorem cmpN (a b : Int) (w : World) :
    Calls Tryz.prog 84 #[.int .i64 a, .int .i64 b] w fun e w' => e = .returned (.int .i64 (cmpI a b)) ∧ w = w' := by
  go_enter Tryz.func84, Tryz.ntmps84
  go_wp2
  all_goals go_ret
  · exact ⟨ri (cmpI_lt (by assumption)), rfl⟩
  · exact ⟨ri (cmpI_gt (by assumption)), rfl⟩
  · exact ⟨ri (cmpI_eq (by assumption) (by assumption)), rfl⟩

theorem key_any (x : Nat) (w : World) (hx : x < 18446744073709551616) :
    Calls Tryz.prog 81 #[.float .f64 x] w fun e w' => e = .returned (.int .u64 (ky x : Int)) ∧ w = w' := by
  have h1 := ne_self hx
  have h2 := and_sign hx
  cases hn : nan x
  · rw [hn] at h1
    by_cases h : 9223372036854775808 ≤ x
    · rw [decide_eq_true h] at h2
      have e : (ky x : Int) = bits .xor .u64 IntKind.u64.max (x : Int) := by
        rw [not_word hx]; unfold ky; rw [hn, if_neg (by decide), if_pos h]
      have E := Lib.hid e; clear e hn
      go_enter Tryz.func81, Tryz.ntmps81
      go_wp2
      go_ret
      first | exact ⟨ri E.out.symm, rfl⟩ | exact ⟨rf E.out.symm, rfl⟩
    · rw [decide_eq_false h] at h2
      have e : (ky x : Int) = bits .or .u64 (x : Int) 9223372036854775808 := by
        rw [or_sign (by omega)]; unfold ky; rw [hn, if_neg (by decide), if_neg h]
      have E := Lib.hid e; clear e hn
      go_enter Tryz.func81, Tryz.ntmps81
      go_wp2
      go_ret
      first | exact ⟨ri E.out.symm, rfl⟩ | exact ⟨rf E.out.symm, rfl⟩
  · rw [hn] at h1
    have e : (ky x : Int) = 18446744073709551615 := by unfold ky; rw [hn, if_pos rfl]; rfl
    have E := Lib.hid e; clear e hn h2
    go_enter Tryz.func81, Tryz.ntmps81
    go_wp2
    go_ret
    first | exact ⟨ri E.out.symm, rfl⟩ | exact ⟨rf E.out.symm, rfl⟩

theorem at_any (k : Int) (w : World) (h0 : 0 ≤ k) (hk : k < 18446744073709551616) :
    Calls Tryz.prog 85 #[.int .u64 k] w fun e w' => e = .returned (.float .f64 (atN k.toNat)) ∧ w = w' := by
  obtain ⟨n, rfl⟩ := Int.eq_ofNat_of_zero_le h0
  rw [Int.toNat_natCast]
  have hn : n < 18446744073709551616 := by omega
  have h2 := and_sign hn
  by_cases h : 9223372036854775808 ≤ n
  · rw [decide_eq_true h] at h2
    have e : atN n = (bits .andNot .u64 (n : Int) 9223372036854775808).toNat := by
      rw [andNot_sign hn h]; unfold atN; rw [if_pos h]; omega
    have E := Lib.hid e; clear e h0 hk h hn
    go_enter Tryz.func85, Tryz.ntmps85
    go_wp2
    go_ret
    first | exact ⟨ri E.out.symm, rfl⟩ | exact ⟨rf E.out.symm, rfl⟩
  · rw [decide_eq_false h] at h2
    have e : atN n = (bits .xor .u64 IntKind.u64.max (n : Int)).toNat := by
      rw [not_word hn]; unfold atN; rw [if_neg h]; omega
    have E := Lib.hid e; clear e h0 hk h hn
    go_enter Tryz.func85, Tryz.ntmps85
    go_wp2
    go_ret
    first | exact ⟨ri E.out.symm, rfl⟩ | exact ⟨rf E.out.symm, rfl⟩

theorem inf_pos (w : World) (n : Int) (h : 0 ≤ n) :
    Calls Tryz.prog 21 #[.int .i64 n] w fun e w' => e = .returned (.float .f64 9218868437227405312) ∧ w = w' := by
  go_enter Tryz.func21, Tryz.ntmps21
  go_wp2
  go_ret
  exact ⟨rfl, rfl⟩

theorem inf_neg (w : World) (n : Int) (h : n < 0) :
    Calls Tryz.prog 21 #[.int .i64 n] w fun e w' => e = .returned (.float .f64 18442240474082181120) ∧ w = w' := by
  go_enter Tryz.func21, Tryz.ntmps21
  go_wp2
  go_ret
  exact ⟨rfl, rfl⟩

theorem nan_any (w : World) :
    Calls Tryz.prog 35 #[] w fun e w' => e = .returned (.float .f64 9221120237041090561) ∧ w = w' := by
  go_enter Tryz.func35, Tryz.ntmps35
  go_wp2
  go_ret
  exact ⟨rfl, rfl⟩

theorem order_any (a b : Nat) (w : World) (ha : a < 18446744073709551616) (hb : b < 18446744073709551616) :
    Calls Tryz.prog 53 #[.float .f64 a, .float .f64 b] w fun e w' => e = .returned (.int .i64 (cmpI (ky a) (ky b))) ∧ w = w' := by
  go_enter Tryz.func53, Tryz.ntmps53
  go_wp2_with (first | (go_at_call 81; refine (key_any _ _ (by assumption)).mono ?_; rintro e w' ⟨rfl, rfl⟩) | (go_at_call 80; refine (cmpU _ _ _).mono ?_; rintro e w' ⟨rfl, rfl⟩))
  go_ret
  exact ⟨rfl, rfl⟩

end Fl
end Go.Proofs.YtmebmfgmopdieaaGreatDoor
