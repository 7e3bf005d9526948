/- THE WALKS of layer 36's reference: powers, whole numbers, units, near, Down, Up, Exact, Inf. -/
import Derived.Test.YtmebmfgmopdieaaGreatDoorFlRNear
set_option linter.unusedSimpArgs false
set_option linter.unusedVariables false
set_option maxRecDepth 100000
namespace Go.Proofs.YtmebmfgmopdieaaGreatDoor
open Go.RowKit
namespace Fl

theorem mul_run (i : Nat) (h : i < 63) (w : World) :
    (binOp .mul 27 (.float .f64 (pw i)) (.float .f64 4611686018427387904)).run Tryz.prog w = .ok (.float .f64 (pw (i + 1))) w :=
  run_float_arith w .mul 27 .f64 _ _ _ (pw_mul i h)
theorem sq_run (j : Nat) (h : j < 12) (w : World) :
    (binOp .mul 27 (.float .f64 (sq j)) (.float .f64 (sq j))).run Tryz.prog w = .ok (.float .f64 (sq (j + 1))) w :=
  run_float_arith w .mul 27 .f64 _ _ _ (sq_mul j h)
theorem addp_run {r s t : Nat} (h : mg t = mg r + mg s) (ht : t < 9218868437227405312) (w : World) :
    (binOp .add 27 (.float .f64 r) (.float .f64 s)).run Tryz.prog w = .ok (.float .f64 t) w :=
  run_float_arith w .add 27 .f64 _ _ _ (add_pos h ht)

theorem power_any (n : Nat) (w : World) (hn : n ≤ 63) :
    Calls Tryz.prog 86 #[.int .i64 (n : Int)] w fun e w' => e = .returned (.float .f64 (pw n)) ∧ w = w' := by
  go_enter Tryz.func86, Tryz.ntmps86
  go_wp2
  go_loop [3, 4] (fun x i => ∃ j : Nat, j ≤ n ∧ x = .float .f64 (pw j) ∧ i = .int .i64 (j : Int)) (fun _ i => n - (intOf i).toNat)
  case atStart => exact ⟨0, by omega, by rw [pw_zero], rfl⟩
  case round =>
    obtain ⟨j, hj, rfl, rfl⟩ := hrel
    by_cases h : j < n
    · have hm := fun w => mul_run j (by omega) w
      go_wp2
      go_round
      case rel => exact ⟨j + 1, by omega, rfl, by go_num⟩
      case measure => first | (simp [intOf]; done) | (simp [intOf]; omega)
    · have e : j = n := by omega
      subst e
      go_wp2
      go_ret
      exact ⟨rfl, rfl⟩

/-- What is left of a number of few bits when its last ones are cut is a double. -/
theorem trunc_rep {c k : Nat} (hc : c ≤ 9007199254740992) (j : Nat) : mg (dn (c * 2 ^ k / 2 ^ j * 2 ^ j * U)) = c * 2 ^ k / 2 ^ j * 2 ^ j * U := by
  by_cases h : j ≤ k
  · have e : c * 2 ^ k / 2 ^ j * 2 ^ j = c * 2 ^ k := by
      refine Nat.div_mul_cancel ?_
      exact Nat.dvd_trans (Nat.pow_dvd_pow 2 h) (Nat.dvd_mul_left _ _)
    rw [e]; exact rep_dn hc k
  · have e : c * 2 ^ k / 2 ^ j = c / 2 ^ (j - k) := by
      rw [show (2 : Nat) ^ j = 2 ^ (j - k) * 2 ^ k from by rw [← Nat.pow_add]; congr 1; omega, Nat.mul_div_mul_right _ _ (Nat.two_pow_pos k)]
    rw [e]
    exact rep_dn (Nat.le_trans (Nat.div_le_self _ _) hc) j

theorem trunc_succ (M t : Nat) : M / 2 ^ t * 2 ^ t = M / 2 ^ (t + 1) * 2 ^ (t + 1) + M / 2 ^ t % 2 * 2 ^ t := by
  have h : M / 2 ^ (t + 1) = M / 2 ^ t / 2 := by rw [Nat.div_div_eq_div_mul, ← Nat.pow_succ]
  rw [h, Nat.pow_succ]
  have := Nat.div_add_mod (M / 2 ^ t) 2
  generalize M / 2 ^ t = q at *
  generalize 2 ^ t = p at *
  conv => lhs; rw [← this]
  rw [Nat.add_mul]; congr 1; ac_rfl

theorem dn_lt_inf {m : Nat} (h : m < 18446744073709551616) : dn (m * U) < 9218868437227405312 := dn_lt (int_lt_inf (by omega))

set_option maxHeartbeats 800000 in
theorem whole_any36 (c k M : Nat) (w : World) (hM : M = c * 2 ^ k) (hc : c ≤ 9007199254740992) (hlt : M < 18446744073709551616) :
    Calls Tryz.prog 63 #[.int .u64 (M : Int)] w fun e w' => e = .returned (.float .f64 (dn (M * U))) ∧ w = w' := by
  have hrep : ∀ j, mg (dn (M / 2 ^ j * 2 ^ j * U)) = M / 2 ^ j * 2 ^ j * U := by intro j; subst hM; exact trunc_rep hc j
  have HR := Lib.hid hrep
  have HLT := Lib.hid hlt
  have HP := Lib.hid (fun n w => power_any n w)
  clear hrep hc hM hlt
  go_enter Tryz.func63, Tryz.ntmps63
  go_wp2
  go_loop [3, 4] (fun x i => ∃ j : Nat, j ≤ 64 ∧ x = .float .f64 (dn (M / 2 ^ j * 2 ^ j * U)) ∧ i = .int .i64 ((j : Int) - 1)) (fun _ i => (intOf i + 1).toNat)
  case atStart => exact ⟨64, by omega, by rw [show M / 2 ^ 64 = 0 from Nat.div_eq_of_lt HLT.out, Nat.zero_mul]; rfl, rfl⟩
  case round =>
    obtain ⟨j, hj, rfl, rfl⟩ := hrel
    by_cases h : 1 ≤ j
    · obtain ⟨t, rfl⟩ : ∃ t, j = t + 1 := ⟨j - 1, by omega⟩
      rw [show ((t + 1 : Nat) : Int) - 1 = (t : Int) from by omega]
      have hs := trunc_succ M t
      have hmod : M / 2 ^ t % 2 = 1 ∨ M / 2 ^ t % 2 = 0 := by omega
      rcases hmod with hb | hb
      · have hT : (((M : Int) / 2 ^ t).tmod 2 == 1) = true := by
          rw [beq_iff_eq, show ((M : Int) / 2 ^ t) = ((M / 2 ^ t : Nat) : Int) by simp, show (2 : Int) = ((2 : Nat) : Int) from rfl, ← Int.ofNat_tmod, hb]; rfl
        rw [hb, Nat.one_mul] at hs
        have r1 := HR.out t
        have r2 := HR.out (t + 1)
        have r3 := pw_mg t (by omega)
        have hle : M / 2 ^ t * 2 ^ t ≤ M := Nat.div_mul_le_self _ _
        have hsum : mg (dn (M / 2 ^ t * 2 ^ t * U)) = mg (dn (M / 2 ^ (t + 1) * 2 ^ (t + 1) * U)) + mg (pw t) := by
          rw [r1, r2, r3, hs, Nat.add_mul]
        have hA := fun w => addp_run hsum (dn_lt_inf (Nat.lt_of_le_of_lt hle HLT.out)) w
        clear hsum r1 r2 r3 hs hle hb
        go_wp2_with (go_at_call 86; refine (HP.out _ _ (by omega)).mono ?_; rintro e w' ⟨rfl, rfl⟩)
        go_round
        case rel => exact ⟨t, by omega, rfl, rfl⟩
        case measure => first | (simp [intOf]; done) | (simp [intOf]; omega)
      · have hT : (((M : Int) / 2 ^ t).tmod 2 == 1) = false := by
          rw [beq_eq_false_iff_ne, show ((M : Int) / 2 ^ t) = ((M / 2 ^ t : Nat) : Int) by simp, show (2 : Int) = ((2 : Nat) : Int) from rfl, ← Int.ofNat_tmod, hb]; decide
        rw [hb, Nat.zero_mul, Nat.add_zero] at hs
        have HS := Lib.hid hs
        clear hs hb
        go_wp2_with (go_at_call 86; refine (HP.out _ _ (by omega)).mono ?_; rintro e w' ⟨rfl, rfl⟩)
        go_round
        case rel => exact ⟨t, by omega, by rw [HS.out], rfl⟩
        case measure => first | (simp [intOf]; done) | (simp [intOf]; omega)
    · have e : j = 0 := by omega
      subst e
      rw [Nat.pow_zero, Nat.div_one, Nat.mul_one]
      go_wp2
      go_ret
      exact ⟨rfl, rfl⟩

/-- The last of the 53 highest bits. -/
def UnitOk (m P : Nat) : Prop := ∃ k : Nat, Half m k ∧ m / 2 ^ k < 9007199254740992 ∧ P = 2 ^ k
theorem unit_any (m : Nat) (w : World) (hm : m < 18446744073709551616) :
    Calls Tryz.prog 42 #[.int .u64 (m : Int)] w fun e w' => (∃ P : Nat, UnitOk m P ∧ e = .returned (.int .u64 (P : Int))) ∧ w = w' := by
  have HM := Lib.hid hm
  clear hm
  go_enter Tryz.func42, Tryz.ntmps42
  go_wp2
  go_loop [0, 3] (fun q o => ∃ k : Nat, Half m k ∧ q = .int .u64 ((m / 2 ^ k : Nat) : Int) ∧ o = .int .u64 ((2 ^ k : Nat) : Int)) (fun q _ => (intOf q).toNat)
  case atStart => exact ⟨0, Or.inl rfl, by simp, rfl⟩
  case round =>
    obtain ⟨k, hk, rfl, rfl⟩ := hrel
    have hk11 := half_facts HM.out hk
    have hq2 : m / 2 ^ (k + 1) = m / 2 ^ k / 2 := by rw [Nat.div_div_eq_div_mul, ← Nat.pow_succ]
    have hqb : m / 2 ^ k < 18446744073709551616 := Nat.lt_of_le_of_lt (Nat.div_le_self _ _) HM.out
    have hsucc := @half_succ m k
    have hP : 2 ^ k ≤ 2 ^ 11 := Nat.pow_le_pow_right (by omega) hk11
    have hP2 : 2 ^ (k + 1) = 2 ^ k * 2 := Nat.pow_succ ..
    by_cases hlt : 9007199254740992 ≤ m / 2 ^ k
    · have hs := hsucc hlt
      have KK : ∃ q P, q = m / 2 ^ k ∧ P = 2 ^ k := ⟨_, _, rfl, rfl⟩
      obtain ⟨q, P, hq, hp⟩ := KK
      rw [← hq] at hq2 hqb hlt ⊢
      rw [← hp] at hP hP2 ⊢
      have b0 : (0 : Int) < (q : Int) / 9007199254740992 := by omega
      have b1 : (q : Int) < 18446744073709551616 := by omega
      have b2 : (P : Int) ≤ 2048 := by omega
      have b3 : (0 : Int) ≤ (q : Int) := by omega
      have HS := Lib.hid hs; have HQ := Lib.hid hq2; have HP := Lib.hid hP2; have HL := Lib.hid hlt
      clear hs hq2 hP2 hsucc hq hp hlt hk hqb hk11 hP
      go_wp2
      go_round
      case rel => exact ⟨k + 1, HS.out, vi (by rw [HQ.out]; omega), vi (by rw [HP.out]; omega)⟩
      case measure => have := HL.out; simp [intOf]; omega
    · have KK : ∃ q P, q = m / 2 ^ k ∧ P = 2 ^ k := ⟨_, _, rfl, rfl⟩
      obtain ⟨q, P, hq, hp⟩ := KK
      rw [← hq] at hq2 hqb hlt ⊢
      rw [← hp] at hP hP2 ⊢
      have b0 : ¬ (0 : Int) < (q : Int) / 9007199254740992 := by omega
      have HS := Lib.hid (show UnitOk m P from ⟨k, hk, by rw [← hq]; omega, hp⟩)
      clear hq2 hP2 hsucc hq hp hlt hk hqb hk11 hP
      go_wp2
      go_ret
      exact ⟨⟨P, HS.out, rfl⟩, rfl⟩

theorem rmag_any (n : Int) (w : World) (l0 : -9223372036854775808 ≤ n) (l1 : n < 9223372036854775808) :
    Calls Tryz.prog 41 #[.int .i64 n] w fun e w' => e = .returned (.int .u64 (n.natAbs : Int)) ∧ w = w' := by
  by_cases c : n < 0
  · go_enter Tryz.func41, Tryz.ntmps41
    go_wp2
    go_ret
    exact ⟨ri (by omega), rfl⟩
  · have c' : 0 ≤ n := by omega
    go_enter Tryz.func41, Tryz.ntmps41
    go_wp2
    go_ret
    exact ⟨ri (by omega), rfl⟩

theorem near_plain {m k q P : Nat} (hm : m < 18446744073709551616) (hk : Half m k) (h1 : m / 2 ^ k < 9007199254740992) (hP : P = 2 ^ k) (hq : q = m / P) :
    q ≤ 9007199254740992 ∧ P ≤ 2048 ∧ 0 < P ∧ q * P ≤ m ∧ (m % P = 0 ↔ lostB m k = false) ∧
    (∀ up, (lostB m k && up) = false → dn (q * P * U) = rnearW m up) ∧ (lostB m k = true → ∃ t, mg t = mg (dn (q * P * U)) + mg (dn (P * U)) ∧ t < 9218868437227405312 ∧ t = rnearW m true) := by
  have hk11 := half_facts hm hk
  have hP0 := Nat.two_pow_pos k
  have hP1 : 2 ^ k ≤ 2 ^ 11 := Nat.pow_le_pow_right (by omega) hk11
  subst hP hq
  have hr := @rep_dn (m / 2 ^ k) (by omega) k
  have hlb : (m % 2 ^ k = 0 ↔ lostB m k = false) := by unfold lostB; simp
  refine ⟨by omega, by omega, hP0, Nat.div_mul_le_self _ _, hlb, ?_, ?_⟩
  · intro up h
    refine rnear_tail (c := m / 2 ^ k) (up := up) hm hk h1 (by rw [h]; rfl) hr
  · intro h
    have hr2 := @rep_dn (m / 2 ^ k + 1) (by omega) k
    have hr3 := @rep_dn 1 (by omega) k
    rw [Nat.one_mul] at hr3
    have ht := rnear_tail (c := m / 2 ^ k + 1) (up := true) hm hk h1 (by rw [h]; rfl) hr2
    refine ⟨dn ((m / 2 ^ k + 1) * 2 ^ k * U), ?_, ?_, ht⟩
    · rw [hr, hr2, hr3, Nat.add_mul, Nat.add_mul, Nat.one_mul]
    · refine dn_lt (int_lt_inf ?_)
      have := Nat.div_mul_le_self m (2 ^ k)
      rw [Nat.add_mul]; omega

theorem near36_any (m : Nat) (up : Bool) (w : World) (hm : m < 18446744073709551616) :
    Calls Tryz.prog 40 #[.int .u64 (m : Int), .bool up] w fun e w' => e = .returned (.float .f64 (rnearW m up)) ∧ w = w' := by
  have HW := Lib.hid (fun c k M w h1 h2 h3 => whole_any36 c k M w h1 h2 h3)
  have HM := Lib.hid hm
  have HU := Lib.hid (fun w => unit_any m w hm)
  clear hm
  go_enter Tryz.func40, Tryz.ntmps40
  go_wp2_with fail
  refine (HU.out _).mono ?_
  rintro _ w' ⟨⟨P, ⟨k, h1, h2, h3⟩, rfl⟩, rfl⟩
  obtain ⟨q, hq⟩ : ∃ q, q = m / P := ⟨_, rfl⟩
  obtain ⟨r, hr⟩ : ∃ r, r = m % P := ⟨_, rfl⟩
  obtain ⟨n1, n2, n3, n4, n5, n6, n7⟩ := near_plain HM.out h1 h2 h3 hq
  have hm := HM.out
  have d0 : (P : Int) ≠ 0 := by omega
  have d1 : IntKind.u64.wrap ((m : Int) / (P : Int)) = (q : Int) := by
    rw [← Int.natCast_ediv, ← hq, IntKind.wrap_u64]
    have : q ≤ m := by rw [hq]; exact Nat.div_le_self _ _
    omega
  have d2 : IntKind.u64.wrap ((q : Int) * (P : Int)) = ((q * P : Nat) : Int) := by
    rw [← Int.natCast_mul, IntKind.wrap_u64]; omega
  have d3 : (m : Int).tmod (P : Int) = (r : Int) := by rw [← Int.ofNat_tmod, ← hr]
  have d4 : (m : Int) % (P : Int) = (r : Int) := by rw [← Int.natCast_emod, ← hr]
  have hw := fun w => HW.out q k (q * P) w (by rw [h3]) n1 (by omega)
  have hf := float_small (c := P) (by omega)
  rw [← hr] at n5
  obtain ⟨L, hL⟩ : ∃ L, L = q * P := ⟨_, rfl⟩
  rw [← hL] at d2 hw n6 n7 n4
  have HWL := Lib.hid hw; have N6 := Lib.hid n6; have N7 := Lib.hid n7
  clear hw n6 n7 h1 h2 h3 hL hq hr n4 n1 hm
  cases up
  · have n6 := N6.out false (by simp)
    replace n6 := Lib.hid n6
    go_wp2_with (go_at_call 63; refine (HWL.out _).mono ?_; rintro _ w' ⟨rfl, rfl⟩)
    go_ret
    exact ⟨rf n6.out, rfl⟩
  · cases hl : lostB m k
    · rw [hl] at n5
      have hr0 : (r : Int) = 0 := by have := n5.2 rfl; omega
      have n6 := N6.out true (by rw [hl]; rfl)
      replace n6 := Lib.hid n6
      rw [hr0] at d3 d4
      clear n5 hr0
      go_wp2_with (go_at_call 63; refine (HWL.out _).mono ?_; rintro _ w' ⟨rfl, rfl⟩)
      go_ret
      exact ⟨rf n6.out, rfl⟩
    · rw [hl] at n5
      have hr0 : (0 : Int) < (r : Int) := by
        by_cases c : r = 0
        · exact absurd (n5.1 c) (by decide)
        · omega
      obtain ⟨t, t1, t2, t3⟩ := N7.out hl
      have hA := fun w => addp_run t1 t2 w
      replace t3 := Lib.hid t3
      clear n5 t1 t2
      go_wp2_with (go_at_call 63; refine (HWL.out _).mono ?_; rintro _ w' ⟨rfl, rfl⟩)
      go_ret
      exact ⟨rf t3.out, rfl⟩
end Fl
end Go.Proofs.YtmebmfgmopdieaaGreatDoor
