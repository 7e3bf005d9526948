/- THE WALK of FloatsNear: it returns true, and changes nothing but the count of draws. -/
import Derived.Test.YtjcjffakemcalaaFlLawNext
set_option linter.unusedSimpArgs false
set_option linter.unusedVariables false
namespace Go.Proofs.Ytjcjffakemcalaa
open Go.RowKit
namespace Fl

theorem down_mono {m n : Int} (m0 : -9223372036854775808 ≤ m) (m1 : m < 9223372036854775808) (l0 : -9223372036854775808 ≤ n) (l1 : n < 9223372036854775808) (h : m ≤ n) : vl (downW m) ≤ vl (downW n) := by
  have hU := U_posI
  have h1 := down_le m0 m1
  have h2 := Int.mul_le_mul_of_nonneg_right h (show (0 : Int) ≤ (U : Int) by omega)
  exact down_greatest l0 l1 (downW_lt m0 m1).1 (by omega)
theorem up_mono {m n : Int} (m0 : -9223372036854775808 ≤ m) (m1 : m < 9223372036854775808) (l0 : -9223372036854775808 ≤ n) (l1 : n < 9223372036854775808) (h : m ≤ n) : vl (upW m) ≤ vl (upW n) := by
  have hU := U_posI
  have h1 := le_up l0 l1
  have h2 := Int.mul_le_mul_of_nonneg_right h (show (0 : Int) ≤ (U : Int) by omega)
  exact up_least m0 m1 (upW_lt l0 l1).1 (by omega)

/-- Exact or one apart. -/
theorem near_or {n : Int} (l0 : -9223372036854775808 ≤ n) (l1 : n < 9223372036854775808) :
    (downW n = upW n ∧ vl (downW n) = n * (U : Int)) ∨ (downW n ≠ upW n ∧ vl (downW n) < n * (U : Int) ∧ n * (U : Int) < vl (upW n) ∧ nxt (downW n) = (upW n, 0)) := by
  have h1 := upr_le l0 l1
  have h2 := dn_le_inf l0 l1
  have h3 := dn_le (n.natAbs * U)
  have h4 := lt_dn (n.natAbs * U)
  rw [vl_down l0 l1, vl_up l0 l1, int_abs]
  unfold downW upW
  have hu : upr (n.natAbs * U) = if mg (dn (n.natAbs * U)) = n.natAbs * U then dn (n.natAbs * U) else dn (n.natAbs * U) + 1 := rfl
  generalize n.natAbs * U = v at *
  by_cases c : n < 0
  · simp only [if_pos c]
    by_cases e : mg (dn v) = v
    · rw [if_pos e] at hu
      left; rw [hu, e]; exact ⟨rfl, by omega⟩
    · rw [if_neg e] at hu
      right; rw [hu]
      refine ⟨?_, by omega, by omega, ?_⟩
      · unfold wd; simp
      · rw [nxt_neg (by omega) (by omega), Nat.add_sub_cancel]
  · simp only [if_neg c]
    by_cases e : mg (dn v) = v
    · rw [if_pos e] at hu
      left; rw [hu, e]; exact ⟨rfl, by omega⟩
    · rw [if_neg e] at hu
      right; rw [hu]
      exact ⟨by omega, by omega, by omega, nxt_pos (by omega)⟩

theorem down_ge_min {n : Int} (l0 : -9223372036854775808 ≤ n) (l1 : n < 9223372036854775808) : -9223372036854775808 * (U : Int) ≤ vl (downW n) := by
  have h := down_mono (m := -9223372036854775808) (by decide) (by decide) l0 l1 l0
  have e : vl (downW (-9223372036854775808)) = -9223372036854775808 * (U : Int) := by decide +kernel
  omega

theorem near_cmp {n : Int} (l0 : -9223372036854775808 ≤ n) (l1 : n < 9223372036854775808) :
    cmpC (downW n) n = (if downW n = upW n then 0 else -1, 0) ∧ cmpC (upW n) n = (if downW n = upW n then 0 else 1, 0) ∧
    ∃ f, floorC (downW n) = (f, 0) ∧ (f == n) = decide (downW n = upW n) := by
  have hU := U_posI
  have d := downW_lt l0 l1
  have u := upW_lt l0 l1
  have hmin := down_ge_min l0 l1
  have hle := down_le l0 l1
  have hf : vl (downW n) / (U : Int) * (U : Int) ≤ vl (downW n) := Int.ediv_mul_le _ (by omega)
  have g0 : -9223372036854775808 ≤ vl (downW n) / (U : Int) := Int.le_ediv_of_mul_le hU (by omega)
  have g1 : vl (downW n) / (U : Int) ≤ n := by
    have : vl (downW n) / (U : Int) < n + 1 := Int.ediv_lt_of_lt_mul hU (by rw [Int.add_mul]; omega)
    omega
  have hfl : floorC (downW n) = (vl (downW n) / (U : Int), 0) := by
    unfold floorC wholeC fits intV
    rw [d.2]; simp; omega
  rcases near_or l0 l1 with ⟨e, h⟩ | ⟨e, h, h2, _⟩
  · refine ⟨?_, ?_, _, hfl, ?_⟩
    · unfold cmpC; rw [d.2, if_pos e, h, cmpI_self]; rfl
    · unfold cmpC; rw [← e, d.2, if_pos rfl, h, cmpI_self]; rfl
    · rw [h, Int.mul_ediv_cancel _ (by omega), decide_eq_true e]; simp
  · refine ⟨?_, ?_, _, hfl, ?_⟩
    · unfold cmpC; rw [d.2, if_neg e, ← cmpI_lt h]; rfl
    · unfold cmpC; rw [u.2, if_neg e, ← cmpI_gt h2]; rfl
    · rw [decide_eq_false e, beq_eq_false_iff_ne]
      intro q
      rw [q] at hf; omega

set_option maxRecDepth 100000 in
set_option maxHeartbeats 1000000 in
theorem lawNear (n m : Int) (w : World) (l0 : -9223372036854775808 ≤ n) (l1 : n < 9223372036854775808) (m0 : -9223372036854775808 ≤ m) (m1 : m < 9223372036854775808) :
    Calls Try.prog 5 #[.int .i64 n, .int .i64 m] w (DrewB w true) := by
  have HL := Lib.hid lives_any
  have d := downW_lt l0 l1
  have u := upW_lt l0 l1
  have dm := downW_lt m0 m1
  have um := upW_lt m0 m1
  have HD := Lib.hid (fun w => down_any n w l0 l1)
  have HU := Lib.hid (fun w => up_any n w l0 l1)
  have HRD := Lib.hid (fun w => rdown_any n w l0 l1)
  have HRU := Lib.hid (fun w => rup_any n w l0 l1)
  have HDM := Lib.hid (fun w => down_any m w m0 m1)
  have HUM := Lib.hid (fun w => up_any m w m0 m1)
  have hS1 := fun w => same_any (downW n) (downW n) w d.1 d.1
  have hS2 := fun w => same_any (upW n) (upW n) w u.1 u.1
  rw [sameB_self] at hS1 hS2
  have HS1 := Lib.hid hS1; have HS2 := Lib.hid hS2
  have HE := Lib.hid (fun w => exact_any n w l0 l1)
  have HN := Lib.hid (fun w => next_any (downW n) w d.1)
  have HC := Lib.hid (fun w => cmp_any (downW n) n w d.1 l0 l1)
  have HC2 := Lib.hid (fun w => cmp_any (upW n) n w u.1 l0 l1)
  have HF := Lib.hid (fun w => floor_any (downW n) w d.1)
  obtain ⟨c1, c2, f, c3, c4⟩ := near_cmp l0 l1
  rw [c1] at HC
  rw [c2] at HC2
  rw [c3] at HF
  have t1 := gt_iff d.1 u.1 d.2 u.2
  have t2 := eq_iff d.1 u.1 d.2 u.2
  have t3 := gt_iff dm.1 d.1 dm.2 d.2
  have t4 := gt_iff um.1 u.1 um.2 u.2
  have t5 := lt_iff dm.1 d.1 dm.2 d.2
  have t6 := lt_iff um.1 u.1 um.2 u.2
  have k1 := down_le l0 l1
  have k2 := le_up l0 l1
  have mo1 := down_mono m0 m1 l0 l1
  have mo2 := down_mono l0 l1 m0 m1
  have mo3 := up_mono m0 m1 l0 l1
  have mo4 := up_mono l0 l1 m0 m1
  rw [decide_eq_false (by omega)] at t1
  have t7 : (FloatKind.f64.format.order (downW n) (upW n) == some Ordering.eq) = decide (downW n = upW n) := by
    rw [t2, decide_eq_decide]
    constructor
    · intro h
      rcases near_or l0 l1 with ⟨e, _⟩ | ⟨_, h1, h2, _⟩
      · exact e
      · omega
    · intro h; rw [h]
  have hor : downW n = upW n ∨ nxt (downW n) = (upW n, 0) := by
    rcases near_or l0 l1 with ⟨e, _⟩ | ⟨_, _, _, h⟩
    · exact Or.inl e
    · exact Or.inr h
  have q3 : m ≤ n → (FloatKind.f64.format.order (downW m) (downW n) == some Ordering.gt) = false := fun h => by rw [t3, decide_eq_false (by have := mo1 h; omega)]
  have q4 : m ≤ n → (FloatKind.f64.format.order (upW m) (upW n) == some Ordering.gt) = false := fun h => by rw [t4, decide_eq_false (by have := mo3 h; omega)]
  have q5 : n ≤ m → (FloatKind.f64.format.order (downW m) (downW n) == some Ordering.lt) = false := fun h => by rw [t5, decide_eq_false (by have := mo2 h; omega)]
  have q6 : n ≤ m → (FloatKind.f64.format.order (upW m) (upW n) == some Ordering.lt) = false := fun h => by rw [t6, decide_eq_false (by have := mo4 h; omega)]
  clear t2 t3 t4 t5 t6 k1 k2 mo1 mo2 mo3 mo4 c1 c2 c3 dm um
  have q1 : (FloatKind.f64.format.order (downW n) (upW n) == some Ordering.gt) = false := t1
  have hne : (FloatKind.f64.format.order (downW n) (upW n) != some Ordering.eq) = !decide (downW n = upW n) := by rw [← t7]; rfl
  have hcases : m < n ∨ m = n ∨ n < m := by omega
  rcases hor with hex | hnx
  · rw [decide_eq_true hex] at t7 hne HE c4
    rw [if_pos hex] at HC HC2
    have HHF := beq_iff_eq.1 c4
    rw [HHF] at HF
    rw [hex] at HC HF HN HS1 q1 t7 hne q3 q5 HD HRD
    clear hex HHF c4 HN
    rcases hcases with h | h | h
    · have g1 := q3 (by omega); have g2 := q4 (by omega)
      have i1 : ¬ n ≤ m := by omega
      clear q3 q4 q5 q6 d u
      generalize upW n = B at *
      generalize downW m = DM at *
      generalize upW m = UM at *
      go_enter Try.func5, Try.ntmps5
      go_wp2_with (first
        | (go_at_call 17; ((with_reducible refine (HD.out _).mono ?_); rintro e w' ⟨rfl, rfl⟩))
        | (go_at_call 17; ((with_reducible refine (HDM.out _).mono ?_); rintro e w' ⟨rfl, rfl⟩))
        | (go_at_call 18; ((with_reducible refine (HU.out _).mono ?_); rintro e w' ⟨rfl, rfl⟩))
        | (go_at_call 18; ((with_reducible refine (HUM.out _).mono ?_); rintro e w' ⟨rfl, rfl⟩))
        | (go_at_call 19; ((with_reducible refine (HRD.out _).mono ?_); rintro e w' ⟨rfl, rfl⟩))
        | (go_at_call 20; ((with_reducible refine (HRU.out _).mono ?_); rintro e w' ⟨rfl, rfl⟩))
        | (go_at_call 10; ((with_reducible refine (HS1.out _).mono ?_); rintro e w' ⟨rfl, rfl⟩))
        | (go_at_call 10; ((with_reducible refine (HS2.out _).mono ?_); rintro e w' ⟨rfl, rfl⟩))
        | (go_at_call 21; ((with_reducible refine (HE.out _).mono ?_); rintro e w' ⟨rfl, rfl⟩))
        | (go_at_call 12; ((with_reducible refine (HN.out _).mono ?_); rintro e w' ⟨rfl, rfl⟩))
        | (go_at_call 22; ((with_reducible refine (HC.out _).mono ?_); rintro e w' ⟨rfl, rfl⟩))
        | (go_at_call 22; ((with_reducible refine (HC2.out _).mono ?_); rintro e w' ⟨rfl, rfl⟩))
        | (go_at_call 23; ((with_reducible refine (HF.out _).mono ?_); rintro e w' ⟨k, rfl, rfl⟩))
        | (go_at_call 11; ((with_reducible refine (HL.out _).mono ?_); rintro e w' ⟨k, rfl, rfl⟩)))
      go_ret
      exact ⟨_, rfl, rfl⟩
    · subst h
      have g1 := q4 (by omega); have g2 := q6 (by omega)
      clear q3 q4 q5 q6 HDM HUM d u
      have HDM := HD; have HUM := HU
      generalize upW m = B at *
      go_enter Try.func5, Try.ntmps5
      go_wp2_with (first
        | (go_at_call 17; ((with_reducible refine (HD.out _).mono ?_); rintro e w' ⟨rfl, rfl⟩))
        | (go_at_call 17; ((with_reducible refine (HDM.out _).mono ?_); rintro e w' ⟨rfl, rfl⟩))
        | (go_at_call 18; ((with_reducible refine (HU.out _).mono ?_); rintro e w' ⟨rfl, rfl⟩))
        | (go_at_call 18; ((with_reducible refine (HUM.out _).mono ?_); rintro e w' ⟨rfl, rfl⟩))
        | (go_at_call 19; ((with_reducible refine (HRD.out _).mono ?_); rintro e w' ⟨rfl, rfl⟩))
        | (go_at_call 20; ((with_reducible refine (HRU.out _).mono ?_); rintro e w' ⟨rfl, rfl⟩))
        | (go_at_call 10; ((with_reducible refine (HS1.out _).mono ?_); rintro e w' ⟨rfl, rfl⟩))
        | (go_at_call 10; ((with_reducible refine (HS2.out _).mono ?_); rintro e w' ⟨rfl, rfl⟩))
        | (go_at_call 21; ((with_reducible refine (HE.out _).mono ?_); rintro e w' ⟨rfl, rfl⟩))
        | (go_at_call 12; ((with_reducible refine (HN.out _).mono ?_); rintro e w' ⟨rfl, rfl⟩))
        | (go_at_call 22; ((with_reducible refine (HC.out _).mono ?_); rintro e w' ⟨rfl, rfl⟩))
        | (go_at_call 22; ((with_reducible refine (HC2.out _).mono ?_); rintro e w' ⟨rfl, rfl⟩))
        | (go_at_call 23; ((with_reducible refine (HF.out _).mono ?_); rintro e w' ⟨k, rfl, rfl⟩))
        | (go_at_call 11; ((with_reducible refine (HL.out _).mono ?_); rintro e w' ⟨k, rfl, rfl⟩)))
      go_ret
      exact ⟨_, rfl, rfl⟩
    · have g1 := q5 (by omega); have g2 := q6 (by omega)
      have i1 : ¬ m ≤ n := by omega
      clear q3 q4 q5 q6 d u
      generalize upW n = B at *
      generalize downW m = DM at *
      generalize upW m = UM at *
      go_enter Try.func5, Try.ntmps5
      go_wp2_with (first
        | (go_at_call 17; ((with_reducible refine (HD.out _).mono ?_); rintro e w' ⟨rfl, rfl⟩))
        | (go_at_call 17; ((with_reducible refine (HDM.out _).mono ?_); rintro e w' ⟨rfl, rfl⟩))
        | (go_at_call 18; ((with_reducible refine (HU.out _).mono ?_); rintro e w' ⟨rfl, rfl⟩))
        | (go_at_call 18; ((with_reducible refine (HUM.out _).mono ?_); rintro e w' ⟨rfl, rfl⟩))
        | (go_at_call 19; ((with_reducible refine (HRD.out _).mono ?_); rintro e w' ⟨rfl, rfl⟩))
        | (go_at_call 20; ((with_reducible refine (HRU.out _).mono ?_); rintro e w' ⟨rfl, rfl⟩))
        | (go_at_call 10; ((with_reducible refine (HS1.out _).mono ?_); rintro e w' ⟨rfl, rfl⟩))
        | (go_at_call 10; ((with_reducible refine (HS2.out _).mono ?_); rintro e w' ⟨rfl, rfl⟩))
        | (go_at_call 21; ((with_reducible refine (HE.out _).mono ?_); rintro e w' ⟨rfl, rfl⟩))
        | (go_at_call 12; ((with_reducible refine (HN.out _).mono ?_); rintro e w' ⟨rfl, rfl⟩))
        | (go_at_call 22; ((with_reducible refine (HC.out _).mono ?_); rintro e w' ⟨rfl, rfl⟩))
        | (go_at_call 22; ((with_reducible refine (HC2.out _).mono ?_); rintro e w' ⟨rfl, rfl⟩))
        | (go_at_call 23; ((with_reducible refine (HF.out _).mono ?_); rintro e w' ⟨k, rfl, rfl⟩))
        | (go_at_call 11; ((with_reducible refine (HL.out _).mono ?_); rintro e w' ⟨k, rfl, rfl⟩)))
      go_ret
      exact ⟨_, rfl, rfl⟩
  · have hex : downW n ≠ upW n := by
      intro e
      have h1 := (nxt_facts d.1)
      cases h2 : (rnxt (downW n)).2
      · have h3 := (h1.1 h2).1; rw [hnx] at h3; exact absurd (congrArg Prod.snd h3) (by show ¬ (0 : Int) = 16; decide)
      · obtain ⟨h3, _, h4, _, _⟩ := h1.2 h2
        rw [hnx] at h3
        have h5 : upW n = (rnxt (downW n)).1 := congrArg Prod.fst h3
        rw [← h5, ← e] at h4; omega
    rw [decide_eq_false hex] at t7 hne HE c4
    rw [if_neg hex] at HC HC2
    rw [hnx] at HN
    clear hex hnx
    rcases hcases with h | h | h
    · have g1 := q3 (by omega); have g2 := q4 (by omega)
      have i1 : ¬ n ≤ m := by omega
      clear q3 q4 q5 q6 d u
      generalize downW n = A at *
      generalize upW n = B at *
      generalize downW m = DM at *
      generalize upW m = UM at *
      go_enter Try.func5, Try.ntmps5
      go_wp2_with (first
        | (go_at_call 17; ((with_reducible refine (HD.out _).mono ?_); rintro e w' ⟨rfl, rfl⟩))
        | (go_at_call 17; ((with_reducible refine (HDM.out _).mono ?_); rintro e w' ⟨rfl, rfl⟩))
        | (go_at_call 18; ((with_reducible refine (HU.out _).mono ?_); rintro e w' ⟨rfl, rfl⟩))
        | (go_at_call 18; ((with_reducible refine (HUM.out _).mono ?_); rintro e w' ⟨rfl, rfl⟩))
        | (go_at_call 19; ((with_reducible refine (HRD.out _).mono ?_); rintro e w' ⟨rfl, rfl⟩))
        | (go_at_call 20; ((with_reducible refine (HRU.out _).mono ?_); rintro e w' ⟨rfl, rfl⟩))
        | (go_at_call 10; ((with_reducible refine (HS1.out _).mono ?_); rintro e w' ⟨rfl, rfl⟩))
        | (go_at_call 10; ((with_reducible refine (HS2.out _).mono ?_); rintro e w' ⟨rfl, rfl⟩))
        | (go_at_call 21; ((with_reducible refine (HE.out _).mono ?_); rintro e w' ⟨rfl, rfl⟩))
        | (go_at_call 12; ((with_reducible refine (HN.out _).mono ?_); rintro e w' ⟨rfl, rfl⟩))
        | (go_at_call 22; ((with_reducible refine (HC.out _).mono ?_); rintro e w' ⟨rfl, rfl⟩))
        | (go_at_call 22; ((with_reducible refine (HC2.out _).mono ?_); rintro e w' ⟨rfl, rfl⟩))
        | (go_at_call 23; ((with_reducible refine (HF.out _).mono ?_); rintro e w' ⟨k, rfl, rfl⟩))
        | (go_at_call 11; ((with_reducible refine (HL.out _).mono ?_); rintro e w' ⟨k, rfl, rfl⟩)))
      go_ret
      exact ⟨_, rfl, rfl⟩
    · subst h
      have g1 := q4 (by omega); have g2 := q6 (by omega); have g3 := q3 (by omega); have g4 := q5 (by omega)
      clear q3 q4 q5 q6 HDM HUM d u
      have HDM := HD; have HUM := HU
      generalize downW m = A at *
      generalize upW m = B at *
      go_enter Try.func5, Try.ntmps5
      go_wp2_with (first
        | (go_at_call 17; ((with_reducible refine (HD.out _).mono ?_); rintro e w' ⟨rfl, rfl⟩))
        | (go_at_call 17; ((with_reducible refine (HDM.out _).mono ?_); rintro e w' ⟨rfl, rfl⟩))
        | (go_at_call 18; ((with_reducible refine (HU.out _).mono ?_); rintro e w' ⟨rfl, rfl⟩))
        | (go_at_call 18; ((with_reducible refine (HUM.out _).mono ?_); rintro e w' ⟨rfl, rfl⟩))
        | (go_at_call 19; ((with_reducible refine (HRD.out _).mono ?_); rintro e w' ⟨rfl, rfl⟩))
        | (go_at_call 20; ((with_reducible refine (HRU.out _).mono ?_); rintro e w' ⟨rfl, rfl⟩))
        | (go_at_call 10; ((with_reducible refine (HS1.out _).mono ?_); rintro e w' ⟨rfl, rfl⟩))
        | (go_at_call 10; ((with_reducible refine (HS2.out _).mono ?_); rintro e w' ⟨rfl, rfl⟩))
        | (go_at_call 21; ((with_reducible refine (HE.out _).mono ?_); rintro e w' ⟨rfl, rfl⟩))
        | (go_at_call 12; ((with_reducible refine (HN.out _).mono ?_); rintro e w' ⟨rfl, rfl⟩))
        | (go_at_call 22; ((with_reducible refine (HC.out _).mono ?_); rintro e w' ⟨rfl, rfl⟩))
        | (go_at_call 22; ((with_reducible refine (HC2.out _).mono ?_); rintro e w' ⟨rfl, rfl⟩))
        | (go_at_call 23; ((with_reducible refine (HF.out _).mono ?_); rintro e w' ⟨k, rfl, rfl⟩))
        | (go_at_call 11; ((with_reducible refine (HL.out _).mono ?_); rintro e w' ⟨k, rfl, rfl⟩)))
      go_ret
      exact ⟨_, rfl, rfl⟩
    · have g1 := q5 (by omega); have g2 := q6 (by omega)
      have i1 : ¬ m ≤ n := by omega
      clear q3 q4 q5 q6 d u
      generalize downW n = A at *
      generalize upW n = B at *
      generalize downW m = DM at *
      generalize upW m = UM at *
      go_enter Try.func5, Try.ntmps5
      go_wp2_with (first
        | (go_at_call 17; ((with_reducible refine (HD.out _).mono ?_); rintro e w' ⟨rfl, rfl⟩))
        | (go_at_call 17; ((with_reducible refine (HDM.out _).mono ?_); rintro e w' ⟨rfl, rfl⟩))
        | (go_at_call 18; ((with_reducible refine (HU.out _).mono ?_); rintro e w' ⟨rfl, rfl⟩))
        | (go_at_call 18; ((with_reducible refine (HUM.out _).mono ?_); rintro e w' ⟨rfl, rfl⟩))
        | (go_at_call 19; ((with_reducible refine (HRD.out _).mono ?_); rintro e w' ⟨rfl, rfl⟩))
        | (go_at_call 20; ((with_reducible refine (HRU.out _).mono ?_); rintro e w' ⟨rfl, rfl⟩))
        | (go_at_call 10; ((with_reducible refine (HS1.out _).mono ?_); rintro e w' ⟨rfl, rfl⟩))
        | (go_at_call 10; ((with_reducible refine (HS2.out _).mono ?_); rintro e w' ⟨rfl, rfl⟩))
        | (go_at_call 21; ((with_reducible refine (HE.out _).mono ?_); rintro e w' ⟨rfl, rfl⟩))
        | (go_at_call 12; ((with_reducible refine (HN.out _).mono ?_); rintro e w' ⟨rfl, rfl⟩))
        | (go_at_call 22; ((with_reducible refine (HC.out _).mono ?_); rintro e w' ⟨rfl, rfl⟩))
        | (go_at_call 22; ((with_reducible refine (HC2.out _).mono ?_); rintro e w' ⟨rfl, rfl⟩))
        | (go_at_call 23; ((with_reducible refine (HF.out _).mono ?_); rintro e w' ⟨k, rfl, rfl⟩))
        | (go_at_call 11; ((with_reducible refine (HL.out _).mono ?_); rintro e w' ⟨k, rfl, rfl⟩)))
      go_ret
      exact ⟨_, rfl, rfl⟩
end Fl
end Go.Proofs.Ytjcjffakemcalaa
