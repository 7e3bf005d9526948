/- THE WALK of axes.Day, and the plain facts that AxesDay asks. -/
import Derived.Test.YtmebmfgmopdieaaGreatDoorFD
import Derived.Below
/-! THE WALK of axes.Day, and the plain facts that AxesDay asks. -/
set_option linter.unusedSimpArgs false
set_option linter.unusedVariables false
set_option maxRecDepth 100000
namespace Go.Proofs.YtmebmfgmopdieaaGreatDoor
open Go.RowKit
namespace Ax
open Fl

/-- The day of a number: in range, of another one, of NaN. -/
def inR (x : Nat) : Prop := -9223372036854775808 * (U : Int) ≤ vl x ∧ vl x < 9223372036854775808 * (U : Int)
instance (x : Nat) : Decidable (inR x) := inferInstanceAs (Decidable (_ ∧ _))
def dayD (x : Nat) : Int := if inR x then vl x / (U : Int) else 0
def dayE (x : Nat) : Int := if inR x then 0 else 4

theorem dayNan_any (x : Nat) (w : World) (hx : x < 18446744073709551616) (hn : nan x = true) :
    Calls Tryz.prog 11 #[.float .f64 x] w fun r w' => r = .returned (.tuple #[.int .i64 0, .int .i64 1]) ∧ w = w' := by
  have hne := ne_self hx
  rw [hn] at hne
  clear hx hn
  go_enter Tryz.func11, Tryz.ntmps11
  go_wp2
  go_ret2
  exact ⟨ret2_ii rfl rfl, rfl⟩

theorem day_any (x : Nat) (w : World) (hx : x < 18446744073709551616) (hn : nan x = false) :
    Calls Tryz.prog 11 #[.float .f64 x] w fun r w' => r = .returned (.tuple #[.int .i64 (dayD x), .int .i64 (dayE x)]) ∧ w = w' := by
  have hne := ne_self hx
  rw [hn] at hne
  have hU := U_posI
  have hg := ge_iff hx (show 14114281232179134464 < 18446744073709551616 by decide) hn (by decide)
  have hl := lt_iff hx (show 4890909195324358656 < 18446744073709551616 by decide) hn (by decide)
  rw [vl_ngreat] at hg
  rw [vl_great] at hl
  by_cases c : inR x
  · obtain ⟨c1, c2⟩ := c
    rw [decide_eq_true c1] at hg
    rw [decide_eq_true c2] at hl
    obtain ⟨y1, y2, y3⟩ := intW_spec false hx hn
    have hfin : vl (intW false x) = intV false (vl x) * (U : Int) := by
      rcases y3 with ⟨h, _⟩ | ⟨_, h⟩
      · exfalso
        have hb : (36893488147419103232 * (U : Int)) < (mg 9218868437227405312 : Int) := by have := big_lt; omega
        rcases vl_inf hx h with ⟨_, e⟩ | ⟨_, e⟩ <;> rw [e] at c1 c2 <;> omega
      · exact h
    have e0 : intV false (vl x) = vl x / (U : Int) := rfl
    rw [e0] at hfin
    have g0 : -9223372036854775808 ≤ vl x / (U : Int) := Int.le_ediv_of_mul_le hU (by omega)
    have g1 : vl x / (U : Int) < 9223372036854775808 := Int.ediv_lt_of_lt_mul hU (by omega)
    have hconv := conv_fi (intW false x) (vl x / (U : Int)) (toInt_vl y1 y2 hfin g0 g1) w
    have hfl := Lib.hid (fun w => mfloor_num x w hx hn)
    have E1 := Lib.hid (show dayD x = vl x / (U : Int) by unfold dayD; rw [if_pos ⟨c1, c2⟩])
    have E2 := Lib.hid (show dayE x = 0 by unfold dayE; rw [if_pos ⟨c1, c2⟩])
    clear y1 y2 y3 hfin g0 g1 c1 c2 hU hx hn e0
    go_enter Tryz.func11, Tryz.ntmps11
    go_wp2_with (go_at_call 39; refine (hfl.out _).mono ?_; rintro e w' ⟨rfl, rfl⟩)
    go_ret2
    exact ⟨ret2_ii E1.out.symm E2.out.symm, rfl⟩
  · have E1 := Lib.hid (show dayD x = 0 by unfold dayD; rw [if_neg c])
    have E2 := Lib.hid (show dayE x = 4 by unfold dayE; rw [if_neg c])
    by_cases c1 : -9223372036854775808 * (U : Int) ≤ vl x
    · have c2 : ¬ vl x < 9223372036854775808 * (U : Int) := fun h => c ⟨c1, h⟩
      rw [decide_eq_true c1] at hg
      rw [decide_eq_false c2] at hl
      clear c c1 c2 hU hx hn
      go_enter Tryz.func11, Tryz.ntmps11
      go_wp2_with fail
      go_ret2
      exact ⟨ret2_ii E1.out.symm E2.out.symm, rfl⟩
    · rw [decide_eq_false c1] at hg
      clear c c1 hl hU hx hn
      go_enter Tryz.func11, Tryz.ntmps11
      go_wp2_with fail
      go_ret2
      exact ⟨ret2_ii E1.out.symm E2.out.symm, rfl⟩

/-! ## Plain facts -/
theorem rep_pow {c : Nat} (h : c ≤ 9007199254740992) (j : Nat) : ∃ s, mg s = c * 2 ^ j := by
  induction j with
  | zero =>
    refine ⟨c, ?_⟩
    have a := @mgk 0 c h (Or.inl rfl)
    rw [Nat.zero_mul, Nat.zero_add, Nat.pow_zero, Nat.mul_one] at a
    rw [a, Nat.pow_zero, Nat.mul_one]
  | succ j ih =>
    obtain ⟨s, hs⟩ := ih
    obtain ⟨t, ht⟩ := two_mg s
    refine ⟨t, ?_⟩
    rw [ht, hs, Nat.pow_succ]; generalize 2 ^ j = p; ac_rfl

/-- A quarter. -/
def Qt : Nat := 2 ^ (E - 2)
theorem U_Qt : U = 4 * Qt := by
  unfold Qt; rw [U_pow, show (4 : Nat) = 2 ^ 2 from rfl, ← Nat.pow_add, show 2 + (E - 2) = E by rw [E_eq]]
theorem vl_quarter : vl 4598175219545276416 = (Qt : Int) := by decide +kernel
theorem fin_quarter : fin 4598175219545276416 = true := by decide
theorem Qt_pos : 0 < Qt := Nat.two_pow_pos _

theorem fin_of {x : Nat} (hn : nan x = false) (h : vl x ≤ 9223372036854775808 * (U : Int)) (h2 : -9223372036854775808 * (U : Int) ≤ vl x) (hx : x < 18446744073709551616) : fin x = true := by
  unfold fin
  rw [decide_eq_true_eq]
  unfold nan at hn
  have hn' : x % 9223372036854775808 ≤ 9218868437227405312 := by simpa using hn
  by_cases c : x % 9223372036854775808 = 9218868437227405312
  · exfalso
    have hb : (36893488147419103232 * (U : Int)) < (mg 9218868437227405312 : Int) := by have := big_lt; omega
    have hU := U_posI
    rcases vl_inf hx c with ⟨_, e⟩ | ⟨_, e⟩ <;> rw [e] at h h2 <;> omega
  · omega

theorem exact_vl {n : Int} (l0 : -9223372036854775808 ≤ n) (l1 : n < 9223372036854775808) (h : downW n = upW n) : vl (downW n) = n * (U : Int) := by
  have h1 := (downW_spec l0 l1).2.2
  have h2 := (upW_spec l0 l1).2.2
  rw [← h] at h2; omega

theorem day_exact {n : Int} (l0 : -9223372036854775808 ≤ n) (l1 : n < 9223372036854775808) (h : downW n = upW n) : dayD (downW n) = n ∧ dayE (downW n) = 0 := by
  have hv := exact_vl l0 l1 h
  have hU := U_posI
  have hin : inR (downW n) := by
    unfold inR; rw [hv]
    exact ⟨Int.mul_le_mul_of_nonneg_right l0 (by omega), Int.mul_lt_mul_of_pos_right l1 hU⟩
  unfold dayD dayE
  rw [if_pos hin, if_pos hin, hv, Int.mul_ediv_cancel _ (by omega)]
  exact ⟨rfl, rfl⟩

/-- What 'Down(n) - 0.25' is. -/
theorem sub_quarter {n : Int} (l0 : -9223372036854775808 ≤ n) (l1 : n < 9223372036854775808) (h : downW n = upW n) :
    ∃ r, floatBits .sub .f64 (downW n) 4598175219545276416 = some r ∧ r < 18446744073709551616 ∧ nan r = false ∧ (-1125899906842624 < n → n < 1125899906842624 → dayD r = n - 1 ∧ dayE r = 0) := by
  have hv := exact_vl l0 l1 h
  have hU := U_posI
  obtain ⟨d1, d2, -⟩ := downW_spec l0 l1
  have b1 : n * (U : Int) ≤ 9223372036854775808 * (U : Int) := Int.mul_le_mul_of_nonneg_right (by omega) (by omega)
  have b2 : -9223372036854775808 * (U : Int) ≤ n * (U : Int) := Int.mul_le_mul_of_nonneg_right l0 (by omega)
  have hf := fin_of d2 (by rw [hv]; exact b1) (by rw [hv]; exact b2) d1
  have hs := sub_val d1 (show 4598175219545276416 < 18446744073709551616 by decide) hf fin_quarter
  refine ⟨_, hs, rndW_lt _ _, rndW_nan _ _, fun n0 n1 => ?_⟩
  rw [hv, vl_quarter]
  have hq : n * (U : Int) - (Qt : Int) = (4 * n - 1) * (Qt : Int) := by
    rw [U_Qt]; push_cast; rw [Int.sub_mul, Int.one_mul, ← Int.mul_assoc, Int.mul_comm n 4]
  rw [hq]
  have hQ := Qt_pos
  generalize (sg (downW n) && !sg 4598175219545276416) = nz
  have hne : (4 * n - 1) * (Qt : Int) ≠ 0 := by
    intro e; rcases Int.mul_eq_zero.1 e with e | e <;> omega
  have habs : ((4 * n - 1) * (Qt : Int)).natAbs = (4 * n - 1).natAbs * 2 ^ (E - 2) := by rw [Int.natAbs_mul, Int.natAbs_natCast]; rfl
  obtain ⟨s, hs2⟩ := @rep_pow (4 * n - 1).natAbs (by omega) (E - 2)
  have hlt : s < 9218868437227405312 := by
    refine (@mg_lt s _).1 ?_
    rw [hs2]
    refine Nat.lt_of_le_of_lt ?_ big_lt
    rw [U_Qt]
    show (4 * n - 1).natAbs * Qt ≤ _
    rw [← Nat.mul_assoc]
    exact Nat.mul_le_mul_right _ (by omega)
  have hval : vl (rndW nz ((4 * n - 1) * (Qt : Int))) = (4 * n - 1) * (Qt : Int) := by
    unfold rndW
    rw [if_neg hne, habs, ← hs2, rr_mg, Nat.min_eq_left (by omega), vl_wd (by omega), hs2, ← habs]
    by_cases c : (4 * n - 1) * (Qt : Int) < 0
    · rw [decide_eq_true c]; simp; omega
    · rw [decide_eq_false c]; simp; omega
  have hdiv : (4 * n - 1) * (Qt : Int) / (U : Int) = n - 1 := by
    rw [U_Qt]
    have hQi : (0 : Int) < (Qt : Int) := by omega
    push_cast
    rw [Int.mul_ediv_mul_of_pos_left _ _ hQi]
    omega
  have hin : inR (rndW nz ((4 * n - 1) * (Qt : Int))) := by
    unfold inR
    rw [hval]
    have hQi : (0 : Int) < (Qt : Int) := by omega
    have e1 : ∀ z : Int, z * (U : Int) = (4 * z) * (Qt : Int) := by
      intro z; rw [U_Qt]; push_cast; rw [← Int.mul_assoc, Int.mul_comm z 4]
    rw [e1, e1]
    exact ⟨Int.mul_le_mul_of_nonneg_right (by omega) (by omega), Int.mul_lt_mul_of_pos_right (by omega) hQi⟩
  unfold dayD dayE
  rw [if_pos hin, if_pos hin, hval, hdiv]
  exact ⟨rfl, rfl⟩
end Ax
end Go.Proofs.YtmebmfgmopdieaaGreatDoor

/-! THE WALK of AxesDay. -/
set_option linter.unusedSimpArgs false
set_option linter.unusedVariables false
set_option maxRecDepth 100000
namespace Go.Proofs.YtmebmfgmopdieaaGreatDoor
open Go.RowKit
namespace Ax
open Fl

theorem lawDay_nan (x : Nat) (n : Int) (w : World) (hx : x < 18446744073709551616) (hn : nan x = true)
    (HL : ∀ W, Below w.heap.size w W → Calls Tryz.prog 9 #[] W fun r w' => r = .returned (.bool true) ∧ Below W.heap.size W w') :
    Calls Tryz.prog 4 #[.float .f64 x, .int .i64 n] w fun r w' => r = .returned (.bool true) ∧ Below w.heap.size w w' := by
  have hne := ne_self hx
  rw [hn] at hne
  have HD := Lib.hid (fun w => dayNan_any x w hx hn)
  replace HL := Lib.hid HL
  clear hx hn
  go_enter Tryz.func4, Tryz.ntmps4
  go_wp2_with (first | (go_at_call 11; refine (HD.out _).mono ?_; rintro _ w' ⟨rfl, rfl⟩) | (go_at_call 9; refine (HL.out _ (Below.refl _ _)).mono ?_; rintro _ w3 ⟨rfl, hb3⟩))
  go_ret
  exact ⟨rfl, hb3⟩

theorem lawDay_out (x : Nat) (n : Int) (w : World) (hx : x < 18446744073709551616) (hn : nan x = false) (c : ¬ inR x)
    (HL : ∀ W, Below w.heap.size w W → Calls Tryz.prog 9 #[] W fun r w' => r = .returned (.bool true) ∧ Below W.heap.size W w') :
    Calls Tryz.prog 4 #[.float .f64 x, .int .i64 n] w fun r w' => r = .returned (.bool true) ∧ Below w.heap.size w w' := by
  have hne := ne_self hx
  rw [hn] at hne
  have HD := fun w => day_any x w hx hn
  rw [show dayD x = 0 by unfold dayD; rw [if_neg c], show dayE x = 4 by unfold dayE; rw [if_neg c]] at HD
  replace HD := Lib.hid HD
  replace HL := Lib.hid HL
  have hl := lt_iff hx (show 14114281232179134464 < 18446744073709551616 by decide) hn (by decide)
  have hg := ge_iff hx (show 4890909195324358656 < 18446744073709551616 by decide) hn (by decide)
  rw [vl_ngreat] at hl
  rw [vl_great] at hg
  by_cases c1 : -9223372036854775808 * (U : Int) ≤ vl x
  · have c2 : 9223372036854775808 * (U : Int) ≤ vl x := by
      by_cases h : vl x < 9223372036854775808 * (U : Int)
      · exact absurd ⟨c1, h⟩ c
      · omega
    rw [decide_eq_true c2] at hg
    rw [decide_eq_false (by omega)] at hl
    clear c c1 c2 hx hn
    go_enter Tryz.func4, Tryz.ntmps4
    go_wp2_with (first | (go_at_call 11; refine (HD.out _).mono ?_; rintro _ w' ⟨rfl, rfl⟩) | (go_at_call 9; refine (HL.out _ (Below.refl _ _)).mono ?_; rintro _ w3 ⟨rfl, hb3⟩))
    go_ret
    exact ⟨rfl, hb3⟩
  · rw [decide_eq_true (by omega)] at hl
    clear c c1 hx hn hg
    go_enter Tryz.func4, Tryz.ntmps4
    go_wp2_with (first | (go_at_call 11; refine (HD.out _).mono ?_; rintro _ w' ⟨rfl, rfl⟩) | (go_at_call 9; refine (HL.out _ (Below.refl _ _)).mono ?_; rintro _ w3 ⟨rfl, hb3⟩))
    go_ret
    exact ⟨rfl, hb3⟩

set_option maxHeartbeats 2000000 in
theorem lawDay_in (x : Nat) (n : Int) (w : World) (hx : x < 18446744073709551616) (hn : nan x = false) (c : inR x) (l0 : -9223372036854775808 ≤ n) (l1 : n < 9223372036854775808)
    (HL : ∀ W, Below w.heap.size w W → Calls Tryz.prog 9 #[] W fun r w' => r = .returned (.bool true) ∧ Below W.heap.size W w') :
    Calls Tryz.prog 4 #[.float .f64 x, .int .i64 n] w fun r w' => r = .returned (.bool true) ∧ Below w.heap.size w w' := by
  have hne := ne_self hx
  rw [hn] at hne
  have hU := U_posI
  obtain ⟨d, hd⟩ : ∃ d, d = vl x / (U : Int) := ⟨_, rfl⟩
  have HD := fun w => day_any x w hx hn
  rw [show dayD x = d by unfold dayD; rw [if_pos c, hd], show dayE x = 0 by unfold dayE; rw [if_pos c]] at HD
  have hl := lt_iff hx (show 14114281232179134464 < 18446744073709551616 by decide) hn (by decide)
  have hg := ge_iff hx (show 4890909195324358656 < 18446744073709551616 by decide) hn (by decide)
  rw [vl_ngreat] at hl
  rw [vl_great] at hg
  obtain ⟨c1, c2⟩ := c
  rw [decide_eq_false (by omega)] at hl hg
  have f0 : d * (U : Int) ≤ vl x := by rw [hd]; exact Int.ediv_mul_le _ (by omega)
  have f1 : vl x < (d + 1) * (U : Int) := by rw [hd]; exact Int.lt_ediv_add_one_mul_self _ hU
  have g0 : -9223372036854775808 ≤ d := by rw [hd]; exact Int.le_ediv_of_mul_le hU (by omega)
  have g1 : d < 9223372036854775808 := by rw [hd]; exact Int.ediv_lt_of_lt_mul hU (by omega)
  obtain ⟨e1, e2, e3⟩ := downW_spec g0 g1
  have hgt := gt_iff e1 hx e2 hn
  rw [decide_eq_false (by omega)] at hgt
  have HDn := Lib.hid (fun w => down36_any d w g0 g1)
  have HUp : d < 9223372036854775807 → (∀ w, Calls Tryz.prog 13 #[.int .i64 (d + 1)] w fun e w' => e = .returned (.float .f64 (upW (d + 1))) ∧ w = w') ∧ (FloatKind.f64.format.order (upW (d + 1)) x == some Ordering.lt || FloatKind.f64.format.order (upW (d + 1)) x == some Ordering.eq) = false := by
    intro h
    obtain ⟨u1, u2, u3⟩ := upW_spec (n := d + 1) (by omega) (by omega)
    refine ⟨fun w => up36_any (d + 1) w (by omega) (by omega), ?_⟩
    rw [le_iff u1 hx u2 hn, decide_eq_false (by omega)]
  have HX := Lib.hid (fun w => exact36_any n w l0 l1)
  have HDN := Lib.hid (fun w => down36_any n w l0 l1)
  have HN : downW n = upW n → (∀ w, Calls Tryz.prog 11 #[.float .f64 (downW n)] w fun r w' => r = .returned (.tuple #[.int .i64 n, .int .i64 0]) ∧ w = w') ∧
      ∃ r p q, floatBits .sub .f64 (downW n) 4598175219545276416 = some r ∧ (∀ w, Calls Tryz.prog 11 #[.float .f64 r] w fun e w' => e = .returned (.tuple #[.int .i64 p, .int .i64 q]) ∧ w = w') ∧ (-1125899906842624 < n → n < 1125899906842624 → p = n - 1 ∧ q = 0) := by
    intro h
    obtain ⟨n1, n2, -⟩ := downW_spec l0 l1
    obtain ⟨m1, m2⟩ := day_exact l0 l1 h
    obtain ⟨r, r1, r2, r3, r4⟩ := sub_quarter l0 l1 h
    have k1 := fun w => day_any (downW n) w n1 n2
    rw [m1, m2] at k1
    exact ⟨k1, r, dayD r, dayE r, r1, fun w => day_any r w r2 r3, r4⟩
  have HXn : exI n = if downW n = upW n then 1 else 0 := rfl
  replace HD := Lib.hid HD
  replace HL := Lib.hid HL
  replace HN := Lib.hid HN
  have hL0 := Lib.hid l0; have hL1 := Lib.hid l1
  clear hx hn hU hd c1 c2 f0 f1 e1 e2 e3
  by_cases hx1 : downW n = upW n
  · obtain ⟨k1, r, p, q, k2, k3, k4⟩ := HN.out hx1
    rw [if_pos hx1] at HXn
    rw [HXn] at HX
    have K1 := Lib.hid k1; have K3 := Lib.hid k3
    have hsub := fun w => run_float_arith (P := Tryz.prog) w .sub 27 .f64 (downW n) 4598175219545276416 r k2
    clear k1 k2 k3 HN hx1 HXn
    by_cases i0 : -1125899906842624 < n
    · by_cases i1 : n < 1125899906842624
      · obtain ⟨rfl, rfl⟩ := k4 i0 i1
        have hw : IntKind.i64.wrap (n - 1) = n - 1 := by rw [IntKind.wrap_i64]; omega
        clear k4
        by_cases hd1 : d < 9223372036854775807
        · obtain ⟨u1, u2⟩ := HUp hd1
          have hwd : IntKind.i64.wrap (d + 1) = d + 1 := by rw [IntKind.wrap_i64]; omega
          have U1 := Lib.hid u1
          clear HUp u1 g0 g1
          go_enter Tryz.func4, Tryz.ntmps4
          go_wp2_with (first | (go_at_call 11; (first | with_reducible refine (HD.out _).mono ?_ | with_reducible refine (K1.out _).mono ?_ | with_reducible refine (K3.out _).mono ?_); rintro _ w' ⟨rfl, rfl⟩) | (go_at_call 12; (first | with_reducible refine (HDn.out _).mono ?_ | with_reducible refine (HDN.out _).mono ?_); rintro _ w' ⟨rfl, rfl⟩) | (go_at_call 13; with_reducible refine (U1.out _).mono ?_; rintro _ w' ⟨rfl, rfl⟩) | (go_at_call 14; with_reducible refine (HX.out _).mono ?_; rintro _ w' ⟨rfl, rfl⟩) | (go_at_call 9; refine (HL.out _ (Below.refl _ _)).mono ?_; rintro _ w3 ⟨rfl, hb3⟩))
          go_ret
          exact ⟨rfl, hb3⟩
        · clear HUp g0 g1
          go_enter Tryz.func4, Tryz.ntmps4
          go_wp2_with (first | (go_at_call 11; (first | with_reducible refine (HD.out _).mono ?_ | with_reducible refine (K1.out _).mono ?_ | with_reducible refine (K3.out _).mono ?_); rintro _ w' ⟨rfl, rfl⟩) | (go_at_call 12; (first | with_reducible refine (HDn.out _).mono ?_ | with_reducible refine (HDN.out _).mono ?_); rintro _ w' ⟨rfl, rfl⟩) | (go_at_call 14; with_reducible refine (HX.out _).mono ?_; rintro _ w' ⟨rfl, rfl⟩) | (go_at_call 9; refine (HL.out _ (Below.refl _ _)).mono ?_; rintro _ w3 ⟨rfl, hb3⟩))
          go_ret
          exact ⟨rfl, hb3⟩
      · clear k4
        by_cases hd1 : d < 9223372036854775807
        · obtain ⟨u1, u2⟩ := HUp hd1
          have hwd : IntKind.i64.wrap (d + 1) = d + 1 := by rw [IntKind.wrap_i64]; omega
          have U1 := Lib.hid u1
          clear HUp u1 g0 g1
          go_enter Tryz.func4, Tryz.ntmps4
          go_wp2_with (first | (go_at_call 11; (first | with_reducible refine (HD.out _).mono ?_ | with_reducible refine (K1.out _).mono ?_ | with_reducible refine (K3.out _).mono ?_); rintro _ w' ⟨rfl, rfl⟩) | (go_at_call 12; (first | with_reducible refine (HDn.out _).mono ?_ | with_reducible refine (HDN.out _).mono ?_); rintro _ w' ⟨rfl, rfl⟩) | (go_at_call 13; with_reducible refine (U1.out _).mono ?_; rintro _ w' ⟨rfl, rfl⟩) | (go_at_call 14; with_reducible refine (HX.out _).mono ?_; rintro _ w' ⟨rfl, rfl⟩) | (go_at_call 9; refine (HL.out _ (Below.refl _ _)).mono ?_; rintro _ w3 ⟨rfl, hb3⟩))
          go_ret
          exact ⟨rfl, hb3⟩
        · clear HUp g0 g1
          go_enter Tryz.func4, Tryz.ntmps4
          go_wp2_with (first | (go_at_call 11; (first | with_reducible refine (HD.out _).mono ?_ | with_reducible refine (K1.out _).mono ?_ | with_reducible refine (K3.out _).mono ?_); rintro _ w' ⟨rfl, rfl⟩) | (go_at_call 12; (first | with_reducible refine (HDn.out _).mono ?_ | with_reducible refine (HDN.out _).mono ?_); rintro _ w' ⟨rfl, rfl⟩) | (go_at_call 14; with_reducible refine (HX.out _).mono ?_; rintro _ w' ⟨rfl, rfl⟩) | (go_at_call 9; refine (HL.out _ (Below.refl _ _)).mono ?_; rintro _ w3 ⟨rfl, hb3⟩))
          go_ret
          exact ⟨rfl, hb3⟩
    · clear k4
      by_cases hd1 : d < 9223372036854775807
      · obtain ⟨u1, u2⟩ := HUp hd1
        have hwd : IntKind.i64.wrap (d + 1) = d + 1 := by rw [IntKind.wrap_i64]; omega
        have U1 := Lib.hid u1
        clear HUp u1 g0 g1
        go_enter Tryz.func4, Tryz.ntmps4
        go_wp2_with (first | (go_at_call 11; (first | with_reducible refine (HD.out _).mono ?_ | with_reducible refine (K1.out _).mono ?_ | with_reducible refine (K3.out _).mono ?_); rintro _ w' ⟨rfl, rfl⟩) | (go_at_call 12; (first | with_reducible refine (HDn.out _).mono ?_ | with_reducible refine (HDN.out _).mono ?_); rintro _ w' ⟨rfl, rfl⟩) | (go_at_call 13; with_reducible refine (U1.out _).mono ?_; rintro _ w' ⟨rfl, rfl⟩) | (go_at_call 14; with_reducible refine (HX.out _).mono ?_; rintro _ w' ⟨rfl, rfl⟩) | (go_at_call 9; refine (HL.out _ (Below.refl _ _)).mono ?_; rintro _ w3 ⟨rfl, hb3⟩))
        go_ret
        exact ⟨rfl, hb3⟩
      · clear HUp g0 g1
        go_enter Tryz.func4, Tryz.ntmps4
        go_wp2_with (first | (go_at_call 11; (first | with_reducible refine (HD.out _).mono ?_ | with_reducible refine (K1.out _).mono ?_ | with_reducible refine (K3.out _).mono ?_); rintro _ w' ⟨rfl, rfl⟩) | (go_at_call 12; (first | with_reducible refine (HDn.out _).mono ?_ | with_reducible refine (HDN.out _).mono ?_); rintro _ w' ⟨rfl, rfl⟩) | (go_at_call 14; with_reducible refine (HX.out _).mono ?_; rintro _ w' ⟨rfl, rfl⟩) | (go_at_call 9; refine (HL.out _ (Below.refl _ _)).mono ?_; rintro _ w3 ⟨rfl, hb3⟩))
        go_ret
        exact ⟨rfl, hb3⟩
  · rw [if_neg hx1] at HXn
    rw [HXn] at HX
    clear HN hx1 HXn
    by_cases hd1 : d < 9223372036854775807
    · obtain ⟨u1, u2⟩ := HUp hd1
      have hwd : IntKind.i64.wrap (d + 1) = d + 1 := by rw [IntKind.wrap_i64]; omega
      have U1 := Lib.hid u1
      clear HUp u1 g0 g1
      go_enter Tryz.func4, Tryz.ntmps4
      go_wp2_with (first | (go_at_call 11; (first | with_reducible refine (HD.out _).mono ?_); rintro _ w' ⟨rfl, rfl⟩) | (go_at_call 12; (first | with_reducible refine (HDn.out _).mono ?_ | with_reducible refine (HDN.out _).mono ?_); rintro _ w' ⟨rfl, rfl⟩) | (go_at_call 13; with_reducible refine (U1.out _).mono ?_; rintro _ w' ⟨rfl, rfl⟩) | (go_at_call 14; with_reducible refine (HX.out _).mono ?_; rintro _ w' ⟨rfl, rfl⟩) | (go_at_call 9; refine (HL.out _ (Below.refl _ _)).mono ?_; rintro _ w3 ⟨rfl, hb3⟩))
      go_ret
      exact ⟨rfl, hb3⟩
    · clear HUp g0 g1
      go_enter Tryz.func4, Tryz.ntmps4
      go_wp2_with (first | (go_at_call 11; (first | with_reducible refine (HD.out _).mono ?_); rintro _ w' ⟨rfl, rfl⟩) | (go_at_call 12; (first | with_reducible refine (HDn.out _).mono ?_ | with_reducible refine (HDN.out _).mono ?_); rintro _ w' ⟨rfl, rfl⟩) | (go_at_call 14; with_reducible refine (HX.out _).mono ?_; rintro _ w' ⟨rfl, rfl⟩) | (go_at_call 9; refine (HL.out _ (Below.refl _ _)).mono ?_; rintro _ w3 ⟨rfl, hb3⟩))
      go_ret
      exact ⟨rfl, hb3⟩

theorem lawDay_any (x : Nat) (n : Int) (w : World) (hx : x < 18446744073709551616) (l0 : -9223372036854775808 ≤ n) (l1 : n < 9223372036854775808)
    (HL : ∀ W, Below w.heap.size w W → Calls Tryz.prog 9 #[] W fun r w' => r = .returned (.bool true) ∧ Below W.heap.size W w') :
    Calls Tryz.prog 4 #[.float .f64 x, .int .i64 n] w fun r w' => r = .returned (.bool true) ∧ Below w.heap.size w w' := by
  cases hn : nan x
  · by_cases c : inR x
    · exact lawDay_in x n w hx hn c l0 l1 HL
    · exact lawDay_out x n w hx hn c HL
  · exact lawDay_nan x n w hx hn HL
end Ax
end Go.Proofs.YtmebmfgmopdieaaGreatDoor

