/- The plain facts on spans of right runs; THE WALKS of the statements' same and right, and of AxesRun. -/
import Derived.Test.YtmebmfgmopdieaaGreatDoorAxLaw2
import Derived.Test.YtmebmfgmopdieaaGreatDoorAxSum
set_option linter.unusedSimpArgs false
set_option linter.unusedVariables false
set_option maxRecDepth 100000
namespace Go.Proofs.YtmebmfgmopdieaaGreatDoor
open Go.RowKit
namespace Ax
open Fl

theorem natAbs_U (n : Int) : ((n.natAbs * U : Nat) : Int) = if n < 0 then -(n * (U : Int)) else n * (U : Int) := by
  rw [Int.natCast_mul]
  by_cases c : n < 0
  · rw [if_pos c, show ((n.natAbs : Nat) : Int) = -n by omega, Int.neg_mul]
  · rw [if_neg c, show ((n.natAbs : Nat) : Int) = n by omega]

theorem upr_ge (v : Nat) : v ≤ mg (upr v) := by
  unfold upr
  have := lt_dn v
  split <;> omega

theorem downW_spec {n : Int} (l0 : -9223372036854775808 ≤ n) (l1 : n < 9223372036854775808) : downW n < 18446744073709551616 ∧ nan (downW n) = false ∧ vl (downW n) ≤ n * (U : Int) := by
  have h1 := upr_le l0 l1
  have h2 := dn_le_inf l0 l1
  have h3 := upr_ge (n.natAbs * U)
  have h4 := dn_le (n.natAbs * U)
  have h5 := natAbs_U n
  unfold downW
  by_cases c : n < 0
  · simp only [c, if_true] at h5 ⊢
    refine ⟨wd_lt (by omega), nan_wd (by omega), ?_⟩
    rw [vl_wd (by omega)]; simp; omega
  · simp only [c, if_false] at h5 ⊢
    have hw : dn (n.natAbs * U) = wd false (dn (n.natAbs * U)) := by unfold wd; simp
    rw [hw]
    refine ⟨wd_lt (by omega), nan_wd (by omega), ?_⟩
    rw [vl_wd (by omega)]; simp; omega
theorem upW_spec {n : Int} (l0 : -9223372036854775808 ≤ n) (l1 : n < 9223372036854775808) : upW n < 18446744073709551616 ∧ nan (upW n) = false ∧ n * (U : Int) ≤ vl (upW n) := by
  have h1 := upr_le l0 l1
  have h2 := dn_le_inf l0 l1
  have h3 := upr_ge (n.natAbs * U)
  have h4 := dn_le (n.natAbs * U)
  have h5 := natAbs_U n
  unfold upW
  by_cases c : n < 0
  · simp only [c, if_true] at h5 ⊢
    refine ⟨wd_lt (by omega), nan_wd (by omega), ?_⟩
    rw [vl_wd (by omega)]; simp; omega
  · simp only [c, if_false] at h5 ⊢
    have hw : upr (n.natAbs * U) = wd false (upr (n.natAbs * U)) := by unfold wd; simp
    rw [hw]
    refine ⟨wd_lt (by omega), nan_wd (by omega), ?_⟩
    rw [vl_wd (by omega)]; simp; omega

theorem infW_spec (a : Int) : infW a < 18446744073709551616 ∧ nan (infW a) = false ∧ (a < 0 → ∀ y, y < 18446744073709551616 → nan y = false → vl (infW a) ≤ vl y) ∧ (¬ a < 0 → ∀ y, y < 18446744073709551616 → nan y = false → vl y ≤ vl (infW a)) := by
  have key : ∀ y, y < 18446744073709551616 → nan y = false → mg (y % 9223372036854775808) ≤ mg 9218868437227405312 := by
    intro y hy hn
    refine mg_le.2 ?_
    unfold nan at hn; simpa using hn
  unfold infW
  by_cases c : a < 0
  · rw [if_pos c]
    refine ⟨by decide, by decide, fun _ y hy hn => ?_, fun h => absurd c h⟩
    have := key y hy hn
    have e : vl 18442240474082181120 = -(mg 9218868437227405312 : Int) := by rw [vl_sg (by decide), show sg 18442240474082181120 = true by decide]; rfl
    rw [e, vl_sg hy]
    split <;> omega
  · rw [if_neg c]
    refine ⟨by decide, by decide, fun h => absurd h c, fun _ y hy hn => ?_⟩
    have := key y hy hn
    have e : vl 9218868437227405312 = (mg 9218868437227405312 : Int) := by rw [vl_sg (by decide), show sg 9218868437227405312 = false by decide]; rfl
    rw [e, vl_sg hy]
    split <;> omega

theorem right_spec {a lo b hi : Int} (hr : rErr a lo b hi = 0) (l0 : -9223372036854775808 ≤ lo) (l1 : lo < 9223372036854775808) (h0 : -9223372036854775808 ≤ hi) (h1 : hi < 9223372036854775808) :
    loW a lo < 18446744073709551616 ∧ nan (loW a lo) = false ∧ hiW b hi < 18446744073709551616 ∧ nan (hiW b hi) = false ∧ vl (loW a lo) ≤ vl (hiW b hi) := by
  obtain ⟨d1, d2, d3⟩ := downW_spec l0 l1
  obtain ⟨u1, u2, u3⟩ := upW_spec h0 h1
  obtain ⟨i1, i2, i3, i4⟩ := infW_spec a
  obtain ⟨j1, j2, j3, j4⟩ := infW_spec b
  have hU := U_posI
  unfold rErr at hr
  split at hr
  · omega
  rename_i c1
  split at hr
  · omega
  rename_i c2
  split at hr
  · omega
  rename_i c3
  unfold loW hiW
  have e1 : eErr a lo = 0 := by omega
  have e2 : eErr b hi = 0 := by omega
  have v1 := eErr_vals e1
  have v2 := eErr_vals e2
  by_cases ca : a = 0
  · by_cases cb : b = 0
    · rw [if_pos ca, if_pos cb]
      refine ⟨d1, d2, u1, u2, ?_⟩
      have hle : lo ≤ hi := by
        unfold ecmp cmpI at c3
        subst ca cb
        simp at c3
        split at c3
        · omega
        · split at c3 <;> omega
      have := Int.mul_le_mul_of_nonneg_right hle (Int.le_of_lt hU)
      omega
    · rw [if_pos ca, if_neg cb]
      exact ⟨d1, d2, j1, j2, j4 (by omega) _ d1 d2⟩
  · by_cases cb : b = 0
    · rw [if_neg ca, if_pos cb]
      exact ⟨i1, i2, u1, u2, i3 (by omega) _ u1 u2⟩
    · rw [if_neg ca, if_neg cb]
      exact ⟨i1, i2, j1, j2, i3 (by omega) _ j1 j2⟩

theorem msign_any (x : Nat) (w : World) (hx : x < 18446744073709551616) : Calls Tryz.prog 23 #[.float .f64 x] w fun r w' => r = .returned (.bool (sg x)) ∧ w = w' := by
  unfold sg
  by_cases c : 9223372036854775808 ≤ x
  · have e : IntKind.i64.wrap (x : Int) = (x : Int) - 18446744073709551616 := by rw [IntKind.wrap_i64]; omega
    have e2 : (x : Int) - 18446744073709551616 < 0 := by omega
    rw [decide_eq_true c]
    clear c hx
    go_enter Tryz.func23, Tryz.ntmps23
    go_wp2
    go_ret
    exact ⟨rfl, rfl⟩
  · have e : IntKind.i64.wrap (x : Int) = (x : Int) := by rw [IntKind.wrap_i64]; omega
    have e2 : ¬ (x : Int) < 0 := by omega
    rw [decide_eq_false c]
    clear c hx
    go_enter Tryz.func23, Tryz.ntmps23
    go_wp2
    go_ret
    exact ⟨rfl, rfl⟩

theorem same_self (x : Nat) (w : World) (hx : x < 18446744073709551616) (hn : nan x = false) :
    Calls Tryz.prog 18 #[.float .f64 x, .float .f64 x] w fun r w' => r = .returned (.bool true) ∧ w = w' := by
  have he := eq_iff hx hx hn hn
  rw [decide_eq_true rfl] at he
  have hne := ne_self hx
  rw [hn] at hne
  have HS := Lib.hid (fun w => msign_any x w hx)
  clear hx hn
  go_enter Tryz.func18, Tryz.ntmps18
  go_wp2_with (go_at_call 23; refine (HS.out _).mono ?_; rintro _ w' ⟨rfl, rfl⟩)
  go_ret
  exact ⟨rfl, rfl⟩
end Ax
end Go.Proofs.YtmebmfgmopdieaaGreatDoor
