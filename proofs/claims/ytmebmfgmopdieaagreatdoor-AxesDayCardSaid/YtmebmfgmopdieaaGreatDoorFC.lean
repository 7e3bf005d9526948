/- THE WALKS of layer 36's reference: powers, whole numbers, units, near, Down, Up, Exact, Inf. -/
import Derived.Test.YtmebmfgmopdieaaGreatDoorFB
import Derived.Below
import Derived.Deep.RegionHeld3
/-! THE WALKS of layer 36's reference: powers, whole numbers, units, near, Down, Up, Exact, Inf. -/
set_option linter.unusedSimpArgs false
set_option linter.unusedVariables false
set_option maxRecDepth 100000
namespace Go.Proofs.YtmebmfgmopdieaaGreatDoor
open Go.RowKit
namespace Fl

theorem mul_run (i : Nat) (h : i < 63) (w : World) :
    (binOp .mul 27 (.float .f64 (pw i)) (.float .f64 4611686018427387904)).run Tryz.prog w = .ok (.float .f64 (pw (i + 1))) w :=
  run_float_arith w .mul 27 .f64 _ _ _ (pw_mul i h)
theorem sq_run (j : Nat) (h : j < 12) (w : World) :
    (binOp .mul 27 (.float .f64 (sq j)) (.float .f64 (sq j))).run Tryz.prog w = .ok (.float .f64 (sq (j + 1))) w :=
  run_float_arith w .mul 27 .f64 _ _ _ (sq_mul j h)
theorem addp_run {r s t : Nat} (h : mg t = mg r + mg s) (ht : t < 9218868437227405312) (w : World) :
    (binOp .add 27 (.float .f64 r) (.float .f64 s)).run Tryz.prog w = .ok (.float .f64 t) w :=
  run_float_arith w .add 27 .f64 _ _ _ (add_pos h ht)

theorem power_any (n : Nat) (w : World) (hn : n ≤ 63) :
    Calls Tryz.prog 86 #[.int .i64 (n : Int)] w fun e w' => e = .returned (.float .f64 (pw n)) ∧ w = w' := by
  go_enter Tryz.func86, Tryz.ntmps86
  go_wp2
  go_loop [3, 4] (fun x i => ∃ j : Nat, j ≤ n ∧ x = .float .f64 (pw j) ∧ i = .int .i64 (j : Int)) (fun _ i => n - (intOf i).toNat)
  case atStart => exact ⟨0, by omega, by rw [pw_zero], rfl⟩
  case round =>
    obtain ⟨j, hj, rfl, rfl⟩ := hrel
    by_cases h : j < n
    · have hm := fun w => mul_run j (by omega) w
      go_wp2
      go_round
      case rel => exact ⟨j + 1, by omega, rfl, by go_num⟩
      case measure => first | (simp [intOf]; done) | (simp [intOf]; omega)
    · have e : j = n := by omega
      subst e
      go_wp2
      go_ret
      exact ⟨rfl, rfl⟩

/-- What is left of a number of few bits when its last ones are cut is a double. -/
theorem trunc_rep {c k : Nat} (hc : c ≤ 9007199254740992) (j : Nat) : mg (dn (c * 2 ^ k / 2 ^ j * 2 ^ j * U)) = c * 2 ^ k / 2 ^ j * 2 ^ j * U := by
  by_cases h : j ≤ k
  · have e : c * 2 ^ k / 2 ^ j * 2 ^ j = c * 2 ^ k := by
      refine Nat.div_mul_cancel ?_
      exact Nat.dvd_trans (Nat.pow_dvd_pow 2 h) (Nat.dvd_mul_left _ _)
    rw [e]; exact rep_dn hc k
  · have e : c * 2 ^ k / 2 ^ j = c / 2 ^ (j - k) := by
      rw [show (2 : Nat) ^ j = 2 ^ (j - k) * 2 ^ k from by rw [← Nat.pow_add]; congr 1; omega, Nat.mul_div_mul_right _ _ (Nat.two_pow_pos k)]
    rw [e]
    exact rep_dn (Nat.le_trans (Nat.div_le_self _ _) hc) j

theorem trunc_succ (M t : Nat) : M / 2 ^ t * 2 ^ t = M / 2 ^ (t + 1) * 2 ^ (t + 1) + M / 2 ^ t % 2 * 2 ^ t := by
  have h : M / 2 ^ (t + 1) = M / 2 ^ t / 2 := by rw [Nat.div_div_eq_div_mul, ← Nat.pow_succ]
  rw [h, Nat.pow_succ]
  have := Nat.div_add_mod (M / 2 ^ t) 2
  generalize M / 2 ^ t = q at *
  generalize 2 ^ t = p at *
  conv => lhs; rw [← this]
  rw [Nat.add_mul]; congr 1; ac_rfl

theorem dn_lt_inf {m : Nat} (h : m < 18446744073709551616) : dn (m * U) < 9218868437227405312 := dn_lt (int_lt_inf (by omega))

set_option maxHeartbeats 800000 in
theorem whole_any36 (c k M : Nat) (w : World) (hM : M = c * 2 ^ k) (hc : c ≤ 9007199254740992) (hlt : M < 18446744073709551616) :
    Calls Tryz.prog 63 #[.int .u64 (M : Int)] w fun e w' => e = .returned (.float .f64 (dn (M * U))) ∧ w = w' := by
  have hrep : ∀ j, mg (dn (M / 2 ^ j * 2 ^ j * U)) = M / 2 ^ j * 2 ^ j * U := by intro j; subst hM; exact trunc_rep hc j
  have HR := Lib.hid hrep
  have HLT := Lib.hid hlt
  have HP := Lib.hid (fun n w => power_any n w)
  clear hrep hc hM hlt
  go_enter Tryz.func63, Tryz.ntmps63
  go_wp2
  go_loop [3, 4] (fun x i => ∃ j : Nat, j ≤ 64 ∧ x = .float .f64 (dn (M / 2 ^ j * 2 ^ j * U)) ∧ i = .int .i64 ((j : Int) - 1)) (fun _ i => (intOf i + 1).toNat)
  case atStart => exact ⟨64, by omega, by rw [show M / 2 ^ 64 = 0 from Nat.div_eq_of_lt HLT.out, Nat.zero_mul]; rfl, rfl⟩
  case round =>
    obtain ⟨j, hj, rfl, rfl⟩ := hrel
    by_cases h : 1 ≤ j
    · obtain ⟨t, rfl⟩ : ∃ t, j = t + 1 := ⟨j - 1, by omega⟩
      rw [show ((t + 1 : Nat) : Int) - 1 = (t : Int) from by omega]
      have hs := trunc_succ M t
      have hmod : M / 2 ^ t % 2 = 1 ∨ M / 2 ^ t % 2 = 0 := by omega
      rcases hmod with hb | hb
      · have hT : (((M : Int) / 2 ^ t).tmod 2 == 1) = true := by
          rw [beq_iff_eq, show ((M : Int) / 2 ^ t) = ((M / 2 ^ t : Nat) : Int) by simp, show (2 : Int) = ((2 : Nat) : Int) from rfl, ← Int.ofNat_tmod, hb]; rfl
        rw [hb, Nat.one_mul] at hs
        have r1 := HR.out t
        have r2 := HR.out (t + 1)
        have r3 := pw_mg t (by omega)
        have hle : M / 2 ^ t * 2 ^ t ≤ M := Nat.div_mul_le_self _ _
        have hsum : mg (dn (M / 2 ^ t * 2 ^ t * U)) = mg (dn (M / 2 ^ (t + 1) * 2 ^ (t + 1) * U)) + mg (pw t) := by
          rw [r1, r2, r3, hs, Nat.add_mul]
        have hA := fun w => addp_run hsum (dn_lt_inf (Nat.lt_of_le_of_lt hle HLT.out)) w
        clear hsum r1 r2 r3 hs hle hb
        go_wp2_with (go_at_call 86; refine (HP.out _ _ (by omega)).mono ?_; rintro e w' ⟨rfl, rfl⟩)
        go_round
        case rel => exact ⟨t, by omega, rfl, rfl⟩
        case measure => first | (simp [intOf]; done) | (simp [intOf]; omega)
      · have hT : (((M : Int) / 2 ^ t).tmod 2 == 1) = false := by
          rw [beq_eq_false_iff_ne, show ((M : Int) / 2 ^ t) = ((M / 2 ^ t : Nat) : Int) by simp, show (2 : Int) = ((2 : Nat) : Int) from rfl, ← Int.ofNat_tmod, hb]; decide
        rw [hb, Nat.zero_mul, Nat.add_zero] at hs
        have HS := Lib.hid hs
        clear hs hb
        go_wp2_with (go_at_call 86; refine (HP.out _ _ (by omega)).mono ?_; rintro e w' ⟨rfl, rfl⟩)
        go_round
        case rel => exact ⟨t, by omega, by rw [HS.out], rfl⟩
        case measure => first | (simp [intOf]; done) | (simp [intOf]; omega)
    · have e : j = 0 := by omega
      subst e
      rw [Nat.pow_zero, Nat.div_one, Nat.mul_one]
      go_wp2
      go_ret
      exact ⟨rfl, rfl⟩

/-- The last of the 53 highest bits. -/
def UnitOk (m P : Nat) : Prop := ∃ k : Nat, Half m k ∧ m / 2 ^ k < 9007199254740992 ∧ P = 2 ^ k
theorem unit_any (m : Nat) (w : World) (hm : m < 18446744073709551616) :
    Calls Tryz.prog 42 #[.int .u64 (m : Int)] w fun e w' => (∃ P : Nat, UnitOk m P ∧ e = .returned (.int .u64 (P : Int))) ∧ w = w' := by
  have HM := Lib.hid hm
  clear hm
  go_enter Tryz.func42, Tryz.ntmps42
  go_wp2
  go_loop [0, 3] (fun q o => ∃ k : Nat, Half m k ∧ q = .int .u64 ((m / 2 ^ k : Nat) : Int) ∧ o = .int .u64 ((2 ^ k : Nat) : Int)) (fun q _ => (intOf q).toNat)
  case atStart => exact ⟨0, Or.inl rfl, by simp, rfl⟩
  case round =>
    obtain ⟨k, hk, rfl, rfl⟩ := hrel
    have hk11 := half_facts HM.out hk
    have hq2 : m / 2 ^ (k + 1) = m / 2 ^ k / 2 := by rw [Nat.div_div_eq_div_mul, ← Nat.pow_succ]
    have hqb : m / 2 ^ k < 18446744073709551616 := Nat.lt_of_le_of_lt (Nat.div_le_self _ _) HM.out
    have hsucc := @half_succ m k
    have hP : 2 ^ k ≤ 2 ^ 11 := Nat.pow_le_pow_right (by omega) hk11
    have hP2 : 2 ^ (k + 1) = 2 ^ k * 2 := Nat.pow_succ ..
    by_cases hlt : 9007199254740992 ≤ m / 2 ^ k
    · have hs := hsucc hlt
      have KK : ∃ q P, q = m / 2 ^ k ∧ P = 2 ^ k := ⟨_, _, rfl, rfl⟩
      obtain ⟨q, P, hq, hp⟩ := KK
      rw [← hq] at hq2 hqb hlt ⊢
      rw [← hp] at hP hP2 ⊢
      have b0 : (0 : Int) < (q : Int) / 9007199254740992 := by omega
      have b1 : (q : Int) < 18446744073709551616 := by omega
      have b2 : (P : Int) ≤ 2048 := by omega
      have b3 : (0 : Int) ≤ (q : Int) := by omega
      have HS := Lib.hid hs; have HQ := Lib.hid hq2; have HP := Lib.hid hP2; have HL := Lib.hid hlt
      clear hs hq2 hP2 hsucc hq hp hlt hk hqb hk11 hP
      go_wp2
      go_round
      case rel => exact ⟨k + 1, HS.out, vi (by rw [HQ.out]; omega), vi (by rw [HP.out]; omega)⟩
      case measure => have := HL.out; simp [intOf]; omega
    · have KK : ∃ q P, q = m / 2 ^ k ∧ P = 2 ^ k := ⟨_, _, rfl, rfl⟩
      obtain ⟨q, P, hq, hp⟩ := KK
      rw [← hq] at hq2 hqb hlt ⊢
      rw [← hp] at hP hP2 ⊢
      have b0 : ¬ (0 : Int) < (q : Int) / 9007199254740992 := by omega
      have HS := Lib.hid (show UnitOk m P from ⟨k, hk, by rw [← hq]; omega, hp⟩)
      clear hq2 hP2 hsucc hq hp hlt hk hqb hk11 hP
      go_wp2
      go_ret
      exact ⟨⟨P, HS.out, rfl⟩, rfl⟩

theorem rmag_any (n : Int) (w : World) (l0 : -9223372036854775808 ≤ n) (l1 : n < 9223372036854775808) :
    Calls Tryz.prog 41 #[.int .i64 n] w fun e w' => e = .returned (.int .u64 (n.natAbs : Int)) ∧ w = w' := by
  by_cases c : n < 0
  · go_enter Tryz.func41, Tryz.ntmps41
    go_wp2
    go_ret
    exact ⟨ri (by omega), rfl⟩
  · have c' : 0 ≤ n := by omega
    go_enter Tryz.func41, Tryz.ntmps41
    go_wp2
    go_ret
    exact ⟨ri (by omega), rfl⟩

theorem near_plain {m k q P : Nat} (hm : m < 18446744073709551616) (hk : Half m k) (h1 : m / 2 ^ k < 9007199254740992) (hP : P = 2 ^ k) (hq : q = m / P) :
    q ≤ 9007199254740992 ∧ P ≤ 2048 ∧ 0 < P ∧ q * P ≤ m ∧ (m % P = 0 ↔ lostB m k = false) ∧
    (∀ up, (lostB m k && up) = false → dn (q * P * U) = rnearW m up) ∧ (lostB m k = true → ∃ t, mg t = mg (dn (q * P * U)) + mg (dn (P * U)) ∧ t < 9218868437227405312 ∧ t = rnearW m true) := by
  have hk11 := half_facts hm hk
  have hP0 := Nat.two_pow_pos k
  have hP1 : 2 ^ k ≤ 2 ^ 11 := Nat.pow_le_pow_right (by omega) hk11
  subst hP hq
  have hr := @rep_dn (m / 2 ^ k) (by omega) k
  have hlb : (m % 2 ^ k = 0 ↔ lostB m k = false) := by unfold lostB; simp
  refine ⟨by omega, by omega, hP0, Nat.div_mul_le_self _ _, hlb, ?_, ?_⟩
  · intro up h
    refine rnear_tail (c := m / 2 ^ k) (up := up) hm hk h1 (by rw [h]; rfl) hr
  · intro h
    have hr2 := @rep_dn (m / 2 ^ k + 1) (by omega) k
    have hr3 := @rep_dn 1 (by omega) k
    rw [Nat.one_mul] at hr3
    have ht := rnear_tail (c := m / 2 ^ k + 1) (up := true) hm hk h1 (by rw [h]; rfl) hr2
    refine ⟨dn ((m / 2 ^ k + 1) * 2 ^ k * U), ?_, ?_, ht⟩
    · rw [hr, hr2, hr3, Nat.add_mul, Nat.add_mul, Nat.one_mul]
    · refine dn_lt (int_lt_inf ?_)
      have := Nat.div_mul_le_self m (2 ^ k)
      rw [Nat.add_mul]; omega

theorem near36_any (m : Nat) (up : Bool) (w : World) (hm : m < 18446744073709551616) :
    Calls Tryz.prog 40 #[.int .u64 (m : Int), .bool up] w fun e w' => e = .returned (.float .f64 (rnearW m up)) ∧ w = w' := by
  have HW := Lib.hid (fun c k M w h1 h2 h3 => whole_any36 c k M w h1 h2 h3)
  have HM := Lib.hid hm
  have HU := Lib.hid (fun w => unit_any m w hm)
  clear hm
  go_enter Tryz.func40, Tryz.ntmps40
  go_wp2_with fail
  refine (HU.out _).mono ?_
  rintro _ w' ⟨⟨P, ⟨k, h1, h2, h3⟩, rfl⟩, rfl⟩
  obtain ⟨q, hq⟩ : ∃ q, q = m / P := ⟨_, rfl⟩
  obtain ⟨r, hr⟩ : ∃ r, r = m % P := ⟨_, rfl⟩
  obtain ⟨n1, n2, n3, n4, n5, n6, n7⟩ := near_plain HM.out h1 h2 h3 hq
  have hm := HM.out
  have d0 : (P : Int) ≠ 0 := by omega
  have d1 : IntKind.u64.wrap ((m : Int) / (P : Int)) = (q : Int) := by
    rw [← Int.natCast_ediv, ← hq, IntKind.wrap_u64]
    have : q ≤ m := by rw [hq]; exact Nat.div_le_self _ _
    omega
  have d2 : IntKind.u64.wrap ((q : Int) * (P : Int)) = ((q * P : Nat) : Int) := by
    rw [← Int.natCast_mul, IntKind.wrap_u64]; omega
  have d3 : (m : Int).tmod (P : Int) = (r : Int) := by rw [← Int.ofNat_tmod, ← hr]
  have d4 : (m : Int) % (P : Int) = (r : Int) := by rw [← Int.natCast_emod, ← hr]
  have hw := fun w => HW.out q k (q * P) w (by rw [h3]) n1 (by omega)
  have hf := float_small (c := P) (by omega)
  rw [← hr] at n5
  obtain ⟨L, hL⟩ : ∃ L, L = q * P := ⟨_, rfl⟩
  rw [← hL] at d2 hw n6 n7 n4
  have HWL := Lib.hid hw; have N6 := Lib.hid n6; have N7 := Lib.hid n7
  clear hw n6 n7 h1 h2 h3 hL hq hr n4 n1 hm
  cases up
  · have n6 := N6.out false (by simp)
    replace n6 := Lib.hid n6
    go_wp2_with (go_at_call 63; refine (HWL.out _).mono ?_; rintro _ w' ⟨rfl, rfl⟩)
    go_ret
    exact ⟨rf n6.out, rfl⟩
  · cases hl : lostB m k
    · rw [hl] at n5
      have hr0 : (r : Int) = 0 := by have := n5.2 rfl; omega
      have n6 := N6.out true (by rw [hl]; rfl)
      replace n6 := Lib.hid n6
      rw [hr0] at d3 d4
      clear n5 hr0
      go_wp2_with (go_at_call 63; refine (HWL.out _).mono ?_; rintro _ w' ⟨rfl, rfl⟩)
      go_ret
      exact ⟨rf n6.out, rfl⟩
    · rw [hl] at n5
      have hr0 : (0 : Int) < (r : Int) := by
        by_cases c : r = 0
        · exact absurd (n5.1 c) (by decide)
        · omega
      obtain ⟨t, t1, t2, t3⟩ := N7.out hl
      have hA := fun w => addp_run t1 t2 w
      replace t3 := Lib.hid t3
      clear n5 t1 t2
      go_wp2_with (go_at_call 63; refine (HWL.out _).mono ?_; rintro _ w' ⟨rfl, rfl⟩)
      go_ret
      exact ⟨rf t3.out, rfl⟩
end Fl
end Go.Proofs.YtmebmfgmopdieaaGreatDoor

/-! THE WALKS of layer 36's reference: Down, Up, Exact, Inf, Lo, Hi, Span; of the runs' and ends' checks. -/
set_option linter.unusedSimpArgs false
set_option linter.unusedVariables false
set_option maxRecDepth 100000
namespace Go.Proofs.YtmebmfgmopdieaaGreatDoor
open Go.RowKit
namespace Fl

theorem down36_any (n : Int) (w : World) (l0 : -9223372036854775808 ≤ n) (l1 : n < 9223372036854775808) :
    Calls Tryz.prog 12 #[.int .i64 n] w fun e w' => e = .returned (.float .f64 (downW n)) ∧ w = w' := by
  have hs := fun w => rmag_any n w l0 l1
  have hn := fun up w => near36_any n.natAbs up w (by omega)
  have HS := Lib.hid hs; have HN := Lib.hid hn
  clear hs hn
  by_cases c : n < 0
  · have e : downW n = negW (rnearW n.natAbs true) := by unfold downW rnearW; rw [if_pos c, if_pos rfl, negW_wd (by have := upr_le l0 l1; omega)]
    have E := Lib.hid e; clear e l0 l1
    go_enter Tryz.func12, Tryz.ntmps12
    go_wp2_with (first | (go_at_call 41; refine (HS.out _).mono ?_; rintro e w' ⟨rfl, rfl⟩) | (go_at_call 40; refine (HN.out _ _).mono ?_; rintro e w' ⟨rfl, rfl⟩))
    go_ret
    exact ⟨rf E.out.symm, rfl⟩
  · have e : downW n = rnearW n.natAbs false := by unfold downW rnearW; rw [if_neg c, if_neg (by decide)]
    have E := Lib.hid e; clear e l0 l1
    go_enter Tryz.func12, Tryz.ntmps12
    go_wp2_with (first | (go_at_call 41; refine (HS.out _).mono ?_; rintro e w' ⟨rfl, rfl⟩) | (go_at_call 40; refine (HN.out _ _).mono ?_; rintro e w' ⟨rfl, rfl⟩))
    go_ret
    exact ⟨rf E.out.symm, rfl⟩
theorem up36_any (n : Int) (w : World) (l0 : -9223372036854775808 ≤ n) (l1 : n < 9223372036854775808) :
    Calls Tryz.prog 13 #[.int .i64 n] w fun e w' => e = .returned (.float .f64 (upW n)) ∧ w = w' := by
  have hs := fun w => rmag_any n w l0 l1
  have hn := fun up w => near36_any n.natAbs up w (by omega)
  have HS := Lib.hid hs; have HN := Lib.hid hn
  clear hs hn
  by_cases c : n < 0
  · have e : upW n = negW (rnearW n.natAbs false) := by unfold upW rnearW; rw [if_pos c, if_neg (by decide), negW_wd (by have := dn_le_inf l0 l1; omega)]
    have E := Lib.hid e; clear e l0 l1
    go_enter Tryz.func13, Tryz.ntmps13
    go_wp2_with (first | (go_at_call 41; refine (HS.out _).mono ?_; rintro e w' ⟨rfl, rfl⟩) | (go_at_call 40; refine (HN.out _ _).mono ?_; rintro e w' ⟨rfl, rfl⟩))
    go_ret
    exact ⟨rf E.out.symm, rfl⟩
  · have e : upW n = rnearW n.natAbs true := by unfold upW rnearW; rw [if_neg c, if_pos rfl]
    have E := Lib.hid e; clear e l0 l1
    go_enter Tryz.func13, Tryz.ntmps13
    go_wp2_with (first | (go_at_call 41; refine (HS.out _).mono ?_; rintro e w' ⟨rfl, rfl⟩) | (go_at_call 40; refine (HN.out _ _).mono ?_; rintro e w' ⟨rfl, rfl⟩))
    go_ret
    exact ⟨rf E.out.symm, rfl⟩

theorem exact_iff {n : Int} (l0 : -9223372036854775808 ≤ n) (l1 : n < 9223372036854775808) : (downW n = upW n) ↔ mg (dn (n.natAbs * U)) = n.natAbs * U := by
  have h1 := dn_le_inf l0 l1
  unfold downW upW upr
  by_cases c : mg (dn (n.natAbs * U)) = n.natAbs * U
  · rw [if_pos c]; simp [c]
  · rw [if_neg c]
    by_cases d : n < 0
    · simp only [d, if_true, c, iff_false]; unfold wd; simp
    · simp [d, c]

/-- Exact, as a number. -/
def exI (n : Int) : Int := if downW n = upW n then 1 else 0

theorem exact36_any (n : Int) (w : World) (l0 : -9223372036854775808 ≤ n) (l1 : n < 9223372036854775808) :
    Calls Tryz.prog 14 #[.int .i64 n] w fun e w' => e = .returned (.int .i64 (exI n)) ∧ w = w' := by
  obtain ⟨m, hm⟩ : ∃ m, m = n.natAbs := ⟨_, rfl⟩
  have HS := Lib.hid (fun w => rmag_any n w l0 l1)
  have HU := Lib.hid (fun w => unit_any m w (by omega))
  have HE := exact_iff l0 l1
  rw [← hm] at HE HS
  have HM := Lib.hid (show m < 18446744073709551616 by omega)
  replace HE := Lib.hid HE
  clear l0 l1 hm
  go_enter Tryz.func14, Tryz.ntmps14
  go_wp2_with fail
  refine (HS.out _).mono ?_
  rintro _ w' ⟨rfl, rfl⟩
  go_wp2_with fail
  refine (HU.out _).mono ?_
  rintro _ w' ⟨⟨P, ⟨k, h1, h2, h3⟩, rfl⟩, rfl⟩
  obtain ⟨q, hq⟩ : ∃ q, q = m / P := ⟨_, rfl⟩
  obtain ⟨r, hr⟩ : ∃ r, r = m % P := ⟨_, rfl⟩
  obtain ⟨n1, n2, n3, n4, n5, n6, n7⟩ := near_plain HM.out h1 h2 h3 hq
  obtain ⟨-, -, e3⟩ := near_end (m := m) (k := k) h2 (by
    rcases h1 with h | h
    · exact .inl h
    · right
      by_cases hz : k = 0
      · subst hz; simp at h h2 ⊢; omega
      · have e : m / 2 ^ k = m / 2 ^ (k - 1) / 2 := by
          rw [Nat.div_div_eq_div_mul, ← Nat.pow_succ]; congr 2; omega
        omega)
  have d0 : (P : Int) ≠ 0 := by omega
  have d3 : (m : Int).tmod (P : Int) = (r : Int) := by rw [← Int.ofNat_tmod, ← hr]
  have d4 : (m : Int) % (P : Int) = (r : Int) := by rw [← Int.natCast_emod, ← hr]
  rw [← hr] at n5
  have hx : exI n = if r = 0 then 1 else 0 := by
    unfold exI
    by_cases c : r = 0
    · rw [if_pos c, if_pos (HE.out.2 (e3.2 (n5.1 c)))]
    · rw [if_neg c, if_neg (fun h => c (n5.2 (e3.1 (HE.out.1 h))))]
  have HX := Lib.hid hx
  clear hx n1 n2 n3 n4 n5 n6 n7 e3 h1 h2 h3 hq hr
  by_cases c : r = 0
  · subst c
    go_wp2
    go_ret
    exact ⟨ri (by rw [HX.out]; rfl), rfl⟩
  · have c' : ((r : Int) == 0) = false := by rw [beq_eq_false_iff_ne]; omega
    have C := Lib.hid c; clear c
    go_wp2
    go_ret
    exact ⟨ri (by rw [HX.out, if_neg C.out]), rfl⟩
end Fl
end Go.Proofs.YtmebmfgmopdieaaGreatDoor

/-! THE WALKS of ends and runs, and of their references: Check, Compare; of axes.number, axes.Run, and the reference's Inf, Lo, Hi, Span. -/
set_option linter.unusedSimpArgs false
set_option linter.unusedVariables false
set_option maxRecDepth 100000
namespace Go.Proofs.YtmebmfgmopdieaaGreatDoor
open Go.RowKit
namespace Ax
open Fl

theorem ba {W w : World} (h : Below W.heap.size W w) (o : Obj) : Below W.heap.size W (w.alloc o) := h.alloc h.size o
theorem bt {W w w2 : World} (h : Below W.heap.size W w) (h2 : Below w.heap.size w w2) : Below W.heap.size W w2 := h.trans (h2.mono h.size)
theorem bset {W w : World} (h : Below W.heap.size W w) {p : Addr} (hp : W.heap.size ≤ p.block) (u : Value) : Below W.heap.size W (w.setCell p u) := h.setCell hp u

/-- An end, and a run, as values. -/
def ev (a d : Int) : Value := .agg #[.int .i8 a, .int .i64 d]
def rv (a lo b hi : Int) : Value := .agg #[.int .i8 a, .int .i64 lo, .int .i8 b, .int .i64 hi]
def infW (a : Int) : Nat := if a < 0 then 18442240474082181120 else 9218868437227405312
def loW (a d : Int) : Nat := if a = 0 then downW d else infW a
def hiW (a d : Int) : Nat := if a = 0 then upW d else infW a
def ecmp (a d b e : Int) : Int := if a < b then -1 else if b < a then 1 else cmpI d e
def eErr (a d : Int) : Int := if a = 0 then 0 else if a = 1 ∧ d = 0 then 0 else if a = -1 ∧ d = 0 then 0 else 5
def rErr (a lo b hi : Int) : Int := if eErr a lo ≠ 0 ∨ eErr b hi ≠ 0 then 5 else if 0 < a ∨ b < 0 then 4 else if 0 < ecmp a lo b hi then 12 else 0

theorem inf36_any (a : Int) (w : World) :
    Calls Tryz.prog 60 #[.int .i8 a] w fun e w' => e = .returned (.float .f64 (infW a)) ∧ w = w' := by
  have HP := Lib.hid (fun w => power_any 63 w (by decide))
  go_enter Tryz.func60, Tryz.ntmps60
  go_wp2_with fail
  refine (HP.out _).mono ?_
  rintro _ w' ⟨rfl, rfl⟩
  go_wp2_with fail
  go_loop [3, 4] (fun x i => ∃ j : Nat, j ≤ 12 ∧ x = .float .f64 (sq j) ∧ i = .int .i64 (j : Int)) (fun _ i => 12 - (intOf i).toNat)
  case atStart => exact ⟨0, by omega, rfl, rfl⟩
  case round =>
    obtain ⟨j, hj, rfl, rfl⟩ := hrel
    by_cases h : j < 12
    · have hm := fun w => sq_run j h w
      go_wp2
      go_round
      case rel => exact ⟨j + 1, by omega, rfl, by go_num⟩
      case measure => simp [intOf]; omega
    · have e : j = 12 := by omega
      subst e
      rw [sq_end]
      by_cases c : a < 0
      · go_wp2
        go_ret
        exact ⟨rf (by unfold infW; rw [if_pos c]; decide), rfl⟩
      · go_wp2
        go_ret
        exact ⟨rf (by unfold infW; rw [if_neg (by omega)]), rfl⟩

theorem echeck_any (a d : Int) (w : World) :
    Calls Tryz.prog 54 #[ev a d] w fun e w' => e = .returned (.int .i64 (eErr a d)) ∧ Below w.heap.size w w' := by
  unfold ev
  go_enter Tryz.func54, Tryz.ntmps54
  go_wp2_with fail
  all_goals go_ret
  all_goals refine ⟨ri ?_, ba (Below.refl _ _) _⟩
  all_goals unfold eErr
  all_goals simp_all

theorem rcheck8_any (a d : Int) (w : World) :
    Calls Tryz.prog 32 #[ev a d] w fun e w' => e = .returned (.int .i64 (eErr a d)) ∧ Below w.heap.size w w' := by
  unfold ev
  go_enter Tryz.func32, Tryz.ntmps32
  go_wp2_with fail
  all_goals go_ret
  all_goals refine ⟨ri ?_, ba (Below.refl _ _) _⟩
  all_goals unfold eErr
  all_goals simp_all

theorem rcmp8_any (a d b e : Int) (w : World) :
    Calls Tryz.prog 33 #[ev a d, ev b e] w fun r w' => r = .returned (.int .i64 (ecmp a d b e)) ∧ Below w.heap.size w w' := by
  unfold ev
  go_enter Tryz.func33, Tryz.ntmps33
  go_wp2_with fail
  all_goals go_ret
  all_goals refine ⟨ri ?_, ba (ba (Below.refl _ _) _) _⟩
  all_goals unfold ecmp cmpI
  all_goals (repeat' split) <;> omega

theorem cmp8_any (a b : Int) (w : World) :
    Calls Tryz.prog 83 #[.int .i8 a, .int .i8 b] w fun e w' => e = .returned (.int .i64 (cmpI a b)) ∧ w = w' := by
  go_enter Tryz.func83, Tryz.ntmps83
  go_wp2
  all_goals go_ret
  · exact ⟨ri (cmpI_lt (by assumption)), rfl⟩
  · exact ⟨ri (cmpI_gt (by assumption)), rfl⟩
  · exact ⟨ri (cmpI_eq (by assumption) (by assumption)), rfl⟩

/-- The first of two numbers that is not 0. -/
def orV (x y : Int) : Int := if x = 0 then y else x
theorem or2_any (x y : Int) (b : Nat) (w : World) (h0 : w.cell? ⟨b, 0, none⟩ = some (.int .i64 x)) (h1 : w.cell? ⟨b, 1, none⟩ = some (.int .i64 y)) :
    Calls Tryz.prog 82 #[.slice (some ⟨b, 0, none⟩) 2 2] w fun r w' => r = .returned (.int .i64 (orV x y)) ∧ w = w' := by
  have H0 := Lib.hid h0; have H1 := Lib.hid h1
  go_enter Tryz.func82, Tryz.ntmps82
  go_wp2_with fail
  go_loop [2, 8] (fun r i => ∃ k : Nat, k ≤ 2 ∧ r = .int .i64 0 ∧ i = .int .i64 (k : Int) ∧ (1 ≤ k → x = 0) ∧ (2 ≤ k → y = 0)) (fun _ i => 2 - (intOf i).toNat)
  case atStart => exact ⟨0, by omega, rfl, rfl, by omega, by omega⟩
  case round =>
    obtain ⟨k, hk, rfl, rfl, hx, hy⟩ := hrel
    have hk3 : k = 0 ∨ k = 1 ∨ k = 2 := by omega
    rcases hk3 with rfl | rfl | rfl
    · clear hx hy
      by_cases c : x = 0
      · subst c
        go_wp2
        go_round
        case rel => exact ⟨1, by omega, rfl, rfl, fun _ => by trivial, by omega⟩
        case measure => first | (simp [intOf]; done) | (simp [intOf]; omega)
      · have t : (x != 0) = true := by rw [bne_iff_ne]; exact c
        replace c := Lib.hid c
        go_wp2
        go_ret
        exact ⟨ri (by unfold orV; rw [if_neg c.out]), rfl⟩
    · obtain rfl := hx (by omega)
      clear hx hy
      by_cases c : y = 0
      · subst c
        go_wp2
        go_round
        case rel => exact ⟨2, by omega, rfl, rfl, fun _ => by trivial, fun _ => by trivial⟩
        case measure => first | (simp [intOf]; done) | (simp [intOf]; omega)
      · have t : (y != 0) = true := by rw [bne_iff_ne]; exact c
        replace c := Lib.hid c
        go_wp2
        go_ret
        exact ⟨ri (by unfold orV; rw [if_pos rfl]), rfl⟩
    · obtain rfl := hx (by omega)
      obtain rfl := hy (by omega)
      clear hx hy
      go_wp2
      go_ret
      exact ⟨ri (by unfold orV; rw [if_pos rfl]), rfl⟩

theorem or2_new (x y : Int) (w : World) (t : TypeId) (n : Nat) (hn : n = w.heap.size) :
    Calls Tryz.prog 82 #[.slice (some ⟨n, 0, none⟩) 2 2] (w.alloc (.cells #[.int .i64 x, .int .i64 y] t)).drew fun r w' => r = .returned (.int .i64 (orV x y)) ∧ (w.alloc (.cells #[.int .i64 x, .int .i64 y] t)).drew = w' := by
  subst hn
  refine or2_any x y _ _ ?_ ?_
  · show World.cell? (World.alloc _ _) _ = _; simp [go_sem]
  · show World.cell? (World.alloc _ _) _ = _; simp [go_sem]

theorem ecmp_cmp (a d b e : Int) : orV (cmpI a b) (cmpI d e) = ecmp a d b e := by
  unfold orV ecmp cmpI; (repeat' split) <;> omega

theorem four0 (w : World) (a d b e : Int) (t t2 : TypeId) : ∀ W0, W0 = (w.alloc (.cells #[.int .i8 a, .int .i64 d] t)).alloc (.cells #[.int .i8 b, .int .i64 e] t2) →
    W0.cell? ⟨w.heap.size, 0, none⟩ = some (.int .i8 a) ∧ W0.cell? ⟨w.heap.size, 1, none⟩ = some (.int .i64 d) ∧ W0.cell? ⟨w.heap.size + 1, 0, none⟩ = some (.int .i8 b) ∧ W0.cell? ⟨w.heap.size + 1, 1, none⟩ = some (.int .i64 e) ∧ Below w.heap.size w W0 := by
  rintro W0 rfl
  refine ⟨?_, ?_, ?_, ?_, ba (ba (Below.refl _ _) _) _⟩ <;> simp [go_sem]
theorem later4 {W0 w1 w2 : World} {p0 p1 p2 p3 : Addr} {v0 v1 v2 v3 : Value} (h : w1.cell? p0 = some v0 ∧ w1.cell? p1 = some v1 ∧ w1.cell? p2 = some v2 ∧ w1.cell? p3 = some v3 ∧ Below W0.heap.size W0 w1) (hb : Below w1.heap.size w1 w2) :
    w2.cell? p0 = some v0 ∧ w2.cell? p1 = some v1 ∧ w2.cell? p2 = some v2 ∧ w2.cell? p3 = some v3 ∧ Below W0.heap.size W0 w2 :=
  have g : ∀ {p : Addr} {v : Value}, w1.cell? p = some v → w2.cell? p = some v := fun {p v} hc => (hb.cell (World.block_lt_of_cell? _ _ hc)).trans hc
  ⟨g h.1, g h.2.1, g h.2.2.1, g h.2.2.2.1, bt h.2.2.2.2 hb⟩

theorem ecmp_any (a d b e : Int) (w : World) :
    Calls Tryz.prog 55 #[ev a d, ev b e] w fun r w' => r = .returned (.int .i64 (ecmp a d b e)) ∧ Below w.heap.size w w' := by
  unfold ev
  have HX := Lib.hid (ecmp_cmp a d b e)
  go_enter Tryz.func55, Tryz.ntmps55
  go_wp2_with fail
  have hh := four0 w a d b e 24 24 _ rfl
  go_region_held3 (fun w' => w'.cell? ⟨w.heap.size, 0, none⟩ = some (.int .i8 a) ∧ w'.cell? ⟨w.heap.size, 1, none⟩ = some (.int .i64 d) ∧ w'.cell? ⟨w.heap.size + 1, 0, none⟩ = some (.int .i8 b) ∧ w'.cell? ⟨w.heap.size + 1, 1, none⟩ = some (.int .i64 e) ∧ Below w.heap.size w w') (first | (exact later4 hh (Below.refl _ _).drew) | (exact later4 hh ((Below.refl _ _).drew.alloc (by simp [go_sem]) _)) | assumption) ((first | (go_at_call 83; with_reducible refine (cmp8_any _ _ _).mono ?_; rintro _ w' ⟨rfl, rfl⟩) | (go_at_call 84; with_reducible refine (cmpN _ _ _).mono ?_; rintro _ w' ⟨rfl, rfl⟩) | (go_at_call 82; refine (or2_new (cmpI a b) (cmpI d e) _ _ _ ?_).mono ?_; (simp [go_sem]); rintro _ w' ⟨rfl, rfl⟩)))
  rename_i hk
  have HB := Lib.hid hk.2.2.2.2
  clear hk hh
  go_wp2
  go_ret
  exact ⟨ri HX.out, HB.out⟩
end Ax
end Go.Proofs.YtmebmfgmopdieaaGreatDoor

/-! THE WALKS of runs.Check and of its reference. -/
set_option linter.unusedSimpArgs false
set_option linter.unusedVariables false
set_option maxRecDepth 100000
namespace Go.Proofs.YtmebmfgmopdieaaGreatDoor
open Go.RowKit
namespace Ax
open Fl

theorem run_cells {w W : World} {a lo b hi : Value} {t : TypeId} (h : Below (w.alloc (.cells #[a, lo, b, hi] t)).heap.size (w.alloc (.cells #[a, lo, b, hi] t)) W) :
    W.cell? ⟨w.heap.size, 0, none⟩ = some a ∧ W.cell? ⟨w.heap.size, 1, none⟩ = some lo ∧ W.cell? ⟨w.heap.size, 2, none⟩ = some b ∧ W.cell? ⟨w.heap.size, 3, none⟩ = some hi := by
  refine ⟨?_, ?_, ?_, ?_⟩
  · rw [h.cell (by simp)]; simp [go_sem]
  · rw [h.cell (by simp)]; simp [go_sem]
  · rw [h.cell (by simp)]; simp [go_sem]
  · rw [h.cell (by simp)]; simp [go_sem]

theorem runCheck_any (a lo b hi : Int) (w : World) :
    Calls Tryz.prog 27 #[rv a lo b hi] w fun r w' => r = .returned (.int .i64 (rErr a lo b hi)) ∧ Below w.heap.size w w' := by
  have HE := Lib.hid (fun a d w => echeck_any a d w)
  have HC := Lib.hid (fun a d b e w => ecmp_any a d b e w)
  unfold ev at HE HC
  unfold rv
  have HX : rErr a lo b hi = if eErr a lo ≠ 0 ∨ eErr b hi ≠ 0 then 5 else if 0 < a ∨ b < 0 then 4 else if 0 < ecmp a lo b hi then 12 else 0 := rfl
  replace HX := Lib.hid HX
  go_enter Tryz.func27, Tryz.ntmps27
  go_wp2_with fail
  refine (HE.out _ _ _).mono ?_; rintro _ w1 ⟨rfl, hb1⟩
  obtain ⟨q0, q1, q2, q3⟩ := run_cells hb1
  have hB := Lib.hid (bt (ba (Below.refl _ _) _) hb1)
  have hH := Lib.hid hb1
  clear hb1
  by_cases c1 : eErr a lo = 0
  · have t : (eErr a lo != 0) = false := by simpa using c1
    have C1 := Lib.hid c1; clear c1
    go_wp2_with fail
    refine (HE.out _ _ _).mono ?_; rintro _ w2 ⟨rfl, hb2⟩
    clear q0 q1 q2 q3 t
    replace hH := Lib.hid (hH.out.trans (hb2.mono hH.out.size))
    obtain ⟨q0, q1, q2, q3⟩ := run_cells hH.out
    replace hB := Lib.hid (bt hB.out hb2)
    clear hb2
    by_cases c2 : eErr b hi = 0
    · have t : (eErr b hi != 0) = false := by simpa using c2
      have C2 := Lib.hid c2; clear c2
      by_cases c3 : 0 < a ∨ b < 0
      · have HC3 := Lib.hid c3
        by_cases c4 : 0 < a
        · clear c3
          go_wp2_with fail
          go_ret
          exact ⟨ri (by rw [HX.out, if_neg (by simp [C1.out, C2.out]), if_pos HC3.out]), hB.out⟩
        · have c5 : b < 0 := by omega
          clear c3
          go_wp2_with fail
          go_ret
          exact ⟨ri (by rw [HX.out, if_neg (by simp [C1.out, C2.out]), if_pos HC3.out]), hB.out⟩
      · have c4 : ¬ 0 < a := by omega
        have c5 : ¬ b < 0 := by omega
        have HC3 := Lib.hid c3
        clear c3
        go_wp2_with fail
        refine (HC.out _ _ _ _ _).mono ?_; rintro _ w3 ⟨rfl, hb3⟩
        clear q0 q1 q2 q3
        replace hB := Lib.hid (bt hB.out hb3)
        clear hb3
        by_cases c6 : 0 < ecmp a lo b hi
        · go_wp2_with fail
          go_ret
          exact ⟨ri (by rw [HX.out, if_neg (by simp [C1.out, C2.out]), if_neg HC3.out, if_pos c6]), hB.out⟩
        · go_wp2_with fail
          go_ret
          exact ⟨ri (by rw [HX.out, if_neg (by simp [C1.out, C2.out]), if_neg HC3.out, if_neg (by omega)]), hB.out⟩
    · have t : (eErr b hi != 0) = true := by simpa using c2
      have C2 := Lib.hid c2; clear c2
      go_wp2_with fail
      go_ret
      exact ⟨ri (by rw [HX.out, if_pos (.inr C2.out)]), hB.out⟩
  · have t : (eErr a lo != 0) = true := by simpa using c1
    have C1 := Lib.hid c1; clear c1
    go_wp2_with fail
    go_ret
    exact ⟨ri (by rw [HX.out, if_pos (.inl C1.out)]), hB.out⟩
end Ax
end Go.Proofs.YtmebmfgmopdieaaGreatDoor

