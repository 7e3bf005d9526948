/- Down and Up as bounds, and THE WALK of the reference's Floor. -/
import Derived.Test.YtjcjffakemcalaaFlRNear
set_option linter.unusedSimpArgs false
set_option linter.unusedVariables false
namespace Go.Proofs.Ytjcjffakemcalaa
open Go.RowKit
namespace Fl

theorem downW_lt {n : Int} (l0 : -9223372036854775808 ≤ n) (l1 : n < 9223372036854775808) : downW n < 18446744073709551616 ∧ nan (downW n) = false := by
  have h1 := upr_le l0 l1
  have h2 := dn_le_inf l0 l1
  unfold downW
  split
  · exact ⟨wd_lt (by omega), nan_wd (by omega)⟩
  · exact ⟨by omega, nan_false (by omega)⟩

theorem upW_lt {n : Int} (l0 : -9223372036854775808 ≤ n) (l1 : n < 9223372036854775808) : upW n < 18446744073709551616 ∧ nan (upW n) = false := by
  have h1 := upr_le l0 l1
  have h2 := dn_le_inf l0 l1
  unfold upW
  split
  · exact ⟨wd_lt (by omega), nan_wd (by omega)⟩
  · exact ⟨by omega, nan_false (by omega)⟩

theorem le_upr (v : Nat) : v ≤ mg (upr v) := by
  have := lt_dn v
  unfold upr; split <;> omega

theorem int_abs (n : Int) : n * (U : Int) = (if n < 0 then -1 else 1) * ((n.natAbs * U : Nat) : Int) := by
  rw [Int.natCast_mul, ← Int.mul_assoc]
  congr 1
  split <;> omega

theorem vl_down {n : Int} (l0 : -9223372036854775808 ≤ n) (l1 : n < 9223372036854775808) :
    vl (downW n) = if n < 0 then -(mg (upr (n.natAbs * U)) : Int) else (mg (dn (n.natAbs * U)) : Int) := by
  have h1 := upr_le l0 l1
  have h2 := dn_le_inf l0 l1
  unfold downW
  split
  · rw [vl_wd (by omega), if_pos rfl]; omega
  · rw [show dn (n.natAbs * U) = wd false (dn (n.natAbs * U)) by unfold wd; simp, vl_wd (by omega), if_neg (by decide)]; unfold wd; simp
theorem vl_up {n : Int} (l0 : -9223372036854775808 ≤ n) (l1 : n < 9223372036854775808) :
    vl (upW n) = if n < 0 then -(mg (dn (n.natAbs * U)) : Int) else (mg (upr (n.natAbs * U)) : Int) := by
  have h1 := upr_le l0 l1
  have h2 := dn_le_inf l0 l1
  unfold upW
  split
  · rw [vl_wd (by omega), if_pos rfl]; omega
  · rw [show upr (n.natAbs * U) = wd false (upr (n.natAbs * U)) by unfold wd; simp, vl_wd (by omega), if_neg (by decide)]; unfold wd; simp

theorem down_le {n : Int} (l0 : -9223372036854775808 ≤ n) (l1 : n < 9223372036854775808) : vl (downW n) ≤ n * (U : Int) := by
  rw [vl_down l0 l1, int_abs]
  have := le_upr (n.natAbs * U); have := dn_le (n.natAbs * U)
  split <;> omega
theorem le_up {n : Int} (l0 : -9223372036854775808 ≤ n) (l1 : n < 9223372036854775808) : n * (U : Int) ≤ vl (upW n) := by
  rw [vl_up l0 l1, int_abs]
  have := le_upr (n.natAbs * U); have := dn_le (n.natAbs * U)
  split <;> omega

theorem mg_upr_le {v r : Nat} (h : v ≤ mg r) : mg (upr v) ≤ mg r := by
  unfold upr
  split
  · omega
  · rename_i hne
    have h1 := dn_le v
    have := (@mg_lt (dn v) r).1 (by omega)
    exact mg_le.2 (by omega)
theorem le_mg_dn {v r : Nat} (h : mg r ≤ v) : mg r ≤ mg (dn v) := by
  have h1 := lt_dn v
  have := (@mg_lt r (dn v + 1)).1 (by omega)
  exact mg_le.2 (by omega)

/-- Every double that is at least n is at least Up(n), and so for Down. -/
theorem up_least {n : Int} {x : Nat} (l0 : -9223372036854775808 ≤ n) (l1 : n < 9223372036854775808) (hx : x < 18446744073709551616) (h : n * (U : Int) ≤ vl x) : vl (upW n) ≤ vl x := by
  rw [int_abs] at h
  rw [vl_up l0 l1]
  rw [vl_eq hx] at h ⊢
  have hz := mg_zero
  by_cases c : n < 0
  · rw [if_pos c] at h ⊢
    by_cases s : 9223372036854775808 ≤ x
    · rw [decide_eq_true s, if_pos rfl] at h ⊢
      have := @le_mg_dn (n.natAbs * U) (x % 9223372036854775808) (by omega)
      omega
    · rw [decide_eq_false s, if_neg (by decide)] at h ⊢
      omega
  · rw [if_neg c] at h ⊢
    by_cases s : 9223372036854775808 ≤ x
    · rw [decide_eq_true s, if_pos rfl] at h ⊢
      have hv : n.natAbs * U = 0 := by omega
      rw [hv]
      have : upr 0 = 0 := by decide
      rw [this, hz]; rw [hv] at h; omega
    · rw [decide_eq_false s, if_neg (by decide)] at h ⊢
      have := @mg_upr_le (n.natAbs * U) (x % 9223372036854775808) (by omega)
      omega
theorem down_greatest {n : Int} {x : Nat} (l0 : -9223372036854775808 ≤ n) (l1 : n < 9223372036854775808) (hx : x < 18446744073709551616) (h : vl x ≤ n * (U : Int)) : vl x ≤ vl (downW n) := by
  rw [int_abs] at h
  rw [vl_down l0 l1]
  rw [vl_eq hx] at h ⊢
  have hz := mg_zero
  by_cases c : n < 0
  · rw [if_pos c] at h ⊢
    by_cases s : 9223372036854775808 ≤ x
    · rw [decide_eq_true s, if_pos rfl] at h ⊢
      have := @mg_upr_le (n.natAbs * U) (x % 9223372036854775808) (by omega)
      omega
    · rw [decide_eq_false s, if_neg (by decide)] at h ⊢
      have hv : n.natAbs * U = 0 := by omega
      rw [hv]
      have : upr 0 = 0 := by decide
      rw [this, hz]; rw [hv] at h; omega
  · rw [if_neg c] at h ⊢
    by_cases s : 9223372036854775808 ≤ x
    · rw [decide_eq_true s, if_pos rfl] at h ⊢
      omega
    · rw [decide_eq_false s, if_neg (by decide)] at h ⊢
      have := @le_mg_dn (n.natAbs * U) (x % 9223372036854775808) (by omega)
      omega

/-- The reference's test. -/
def leD (m : Int) (x : Nat) : Bool := FloatKind.f64.format.order (downW m) x == some Ordering.lt || FloatKind.f64.format.order (downW m) x == some Ordering.eq
def leU (m : Int) (x : Nat) : Bool := FloatKind.f64.format.order (upW m) x == some Ordering.lt || FloatKind.f64.format.order (upW m) x == some Ordering.eq
def eqDU (m : Int) : Bool := FloatKind.f64.format.order (downW m) (upW m) == some Ordering.eq

theorem test_facts {m : Int} {x : Nat} (l0 : -9223372036854775808 ≤ m) (l1 : m < 9223372036854775808) (hx : x < 18446744073709551616) (hn : nan x = false) :
    (leD m x && (eqDU m || leU m x)) = decide (m ≤ vl x / (U : Int)) := by
  have hU := U_posI
  have d := downW_lt l0 l1
  have u := upW_lt l0 l1
  have e1 := down_le l0 l1
  have e2 := le_up l0 l1
  unfold leD leU eqDU
  rw [le_iff d.1 hx d.2 hn, le_iff u.1 hx u.2 hn, eq_iff d.1 u.1 d.2 u.2]
  have hm : m ≤ vl x / (U : Int) ↔ m * (U : Int) ≤ vl x := Int.le_ediv_iff_mul_le hU
  rw [Bool.eq_iff_iff, decide_eq_true_eq, hm]
  simp only [Bool.and_eq_true, Bool.or_eq_true, decide_eq_true_eq]
  constructor
  · rintro ⟨h1, h2 | h2⟩ <;> omega
  · intro h
    have := up_least l0 l1 hx h
    exact ⟨by omega, Or.inr this⟩


theorem rfloor_out (x : Nat) (w : World) (hx : x < 18446744073709551616) (hn : nan x = false) (h : 9223372036854775808 * (U : Int) ≤ vl x ∨ vl x < -9223372036854775808 * (U : Int)) :
    Calls Try.prog 25 #[.float .f64 x] w fun e w' => e = .returned (.tuple #[.int .i64 0, .bool false]) ∧ w = w' := by
  have hg := ge_iff hx (show 4890909195324358656 < 18446744073709551616 by decide) hn (by decide)
  have hl := lt_iff hx (show 14114281232179134464 < 18446744073709551616 by decide) hn (by decide)
  rw [vl_great] at hg
  rw [vl_ngreat] at hl
  by_cases c1 : 9223372036854775808 * (U : Int) ≤ vl x
  · rw [decide_eq_true c1] at hg
    clear hl h hn c1
    go_enter Try.func25, Try.ntmps25
    go_wp2
    go_ret2
    exact ⟨rfl, rfl⟩
  · have c2 : vl x < -9223372036854775808 * (U : Int) := by rcases h with h | h; exact absurd h c1; exact h
    rw [decide_eq_false c1] at hg
    rw [decide_eq_true c2] at hl
    clear h hn c1 c2
    go_enter Try.func25, Try.ntmps25
    go_wp2
    go_ret2
    exact ⟨rfl, rfl⟩

set_option maxHeartbeats 400000 in
theorem rfloor_in (x : Nat) (f : Int) (w : World) (hx : x < 18446744073709551616) (hn : nan x = false) (hf : f = vl x / (U : Int)) (l0 : -9223372036854775808 ≤ f) (l1 : f < 9223372036854775808) :
    Calls Try.prog 25 #[.float .f64 x] w fun e w' => e = .returned (.tuple #[.int .i64 f, .bool true]) ∧ w = w' := by
  have hU := U_posI
  have hg := ge_iff hx (show 4890909195324358656 < 18446744073709551616 by decide) hn (by decide)
  have hl := lt_iff hx (show 14114281232179134464 < 18446744073709551616 by decide) hn (by decide)
  rw [vl_great] at hg
  rw [vl_ngreat] at hl
  have g0 : f * (U : Int) ≤ vl x := by rw [hf]; exact Int.ediv_mul_le _ (by omega)
  have g1 : vl x < (f + 1) * (U : Int) := by rw [hf]; exact Int.lt_ediv_add_one_mul_self _ hU
  rw [decide_eq_false (by have := Int.mul_le_mul_of_nonneg_right (show f + 1 ≤ 9223372036854775808 by omega) (show (0 : Int) ≤ (U : Int) by omega); omega)] at hg
  rw [decide_eq_false (by have := Int.mul_le_mul_of_nonneg_right l0 (show (0 : Int) ≤ (U : Int) by omega); omega)] at hl
  have htest : ∀ m, -9223372036854775808 ≤ m → m < 9223372036854775808 → (leD m x && (eqDU m || leU m x)) = decide (m ≤ f) := by
    intro m h0 h1; rw [hf]; exact test_facts h0 h1 hx hn
  have HT := Lib.hid htest
  have L0 := Lib.hid l0; have L1 := Lib.hid l1
  clear g0 g1 htest hf hn l0 l1 hU
  go_enter Try.func25, Try.ntmps25
  go_wp2
  go_loop [4, 5] (fun n i => ∃ (c : Int) (b : Nat), b ≤ 64 ∧ n = .int .i64 c ∧ i = .int .i64 ((b : Int) - 1) ∧ -9223372036854775808 ≤ c ∧ c ≤ f ∧ f < c + 2 ^ b) (fun _ i => (intOf i + 1).toNat)
  case atStart => exact ⟨_, 64, by omega, rfl, by simp, by omega, L0.out, by have := L1.out; omega⟩
  case round =>
    obtain ⟨c, b, hb, rfl, rfl, hc0, hc1, hc2⟩ := hrel
    have HC2 := Lib.hid hc2; have HC1 := Lib.hid hc1
    clear hc2 hc1
    cases b with
    | zero =>
      have e : c = f := by have := HC2.out; have := HC1.out; omega
      subst e
      go_wp2
      go_ret2
      exact ⟨rfl, rfl⟩
    | succ b =>
      have hp0 : (0 : Int) < 2 ^ b := by have := Nat.two_pow_pos b; have e : ((2 ^ b : Nat) : Int) = (2 : Int) ^ b := (by simp); omega
      have hp1 : (2 : Int) ^ b ≤ 9223372036854775808 := by
        have h : 2 ^ b ≤ 2 ^ 63 := Nat.pow_le_pow_right (by omega) (by omega)
        have e : ((2 ^ b : Nat) : Int) = (2 : Int) ^ b := by simp
        omega
      have hc2 := HC2.out
      rw [Int.pow_succ] at hc2
      have E1 : IntKind.u64.wrap ((2 : Int) ^ b) = 2 ^ b := by rw [IntKind.wrap_u64]; omega
      have E2 : IntKind.u64.wrap (9223372036854775807 - IntKind.u64.wrap c) = 9223372036854775807 - c := by rw [IntKind.wrap_u64, IntKind.wrap_u64]; have := HC1.out; have := L1.out; omega
      by_cases hA : 9223372036854775807 - c < (2 : Int) ^ b
      · have HN : Hid (f < c + 2 ^ b) := Lib.hid (by have := L1.out; omega)
        clear hc2 hp0 hp1
        go_wp2
        go_round
        case rel => exact ⟨c, b, by omega, rfl, rfl, hc0, HC1.out, HN.out⟩
        case measure => simp [intOf]
      · obtain ⟨m, hm⟩ : ∃ m, m = c + 2 ^ b := ⟨_, rfl⟩
        have E3 : wrap64 (IntKind.u64.wrap (IntKind.u64.wrap c + 2 ^ b)) = m := by
          unfold wrap64
          rw [IntKind.wrap_u64, IntKind.wrap_u64]; omega
        have m0 : -9223372036854775808 ≤ m := by omega
        have m1 : m < 9223372036854775808 := by omega
        have ht := HT.out m m0 m1
        have M0 := Lib.hid m0; have M1 := Lib.hid m1
        have HD := Lib.hid (fun w => rdown_any m w m0 m1)
        have HU := Lib.hid (fun w => rup_any m w m0 m1)
        have HR1 : Hid (m ≤ f → f < m + 2 ^ b) := Lib.hid (by omega)
        have HR2 : Hid (¬ m ≤ f → f < c + 2 ^ b) := Lib.hid (by omega)
        clear hm hc2 hp0 hp1 m0 m1
        cases k1 : leD m x
        · have h1 := k1; unfold leD at h1
          rw [k1] at ht
          have hno := Lib.hid (of_decide_eq_false ht.symm)
          clear ht k1
          go_wp2_with (first | (go_at_call 19; refine (HD.out _).mono ?_; rintro e w' ⟨rfl, rfl⟩) | (go_at_call 20; refine (HU.out _).mono ?_; rintro e w' ⟨rfl, rfl⟩))
          go_round
          case rel => exact ⟨c, b, by omega, rfl, rfl, hc0, HC1.out, HR2.out hno.out⟩
          case measure => simp [intOf]
        · have h1 := k1; unfold leD at h1
          rw [k1, Bool.true_and] at ht
          cases k2 : eqDU m
          · have h2 := k2; unfold eqDU at h2
            rw [k2, Bool.false_or] at ht
            cases k3 : leU m x
            · have h3 := k3; unfold leU at h3
              rw [k3] at ht
              have hno := Lib.hid (of_decide_eq_false ht.symm)
              clear ht k1 k2 k3
              go_wp2_with (first | (go_at_call 19; refine (HD.out _).mono ?_; rintro e w' ⟨rfl, rfl⟩) | (go_at_call 20; refine (HU.out _).mono ?_; rintro e w' ⟨rfl, rfl⟩))
              go_round
              case rel => exact ⟨c, b, by omega, rfl, rfl, hc0, HC1.out, HR2.out hno.out⟩
              case measure => simp [intOf]
            · have h3 := k3; unfold leU at h3
              rw [k3] at ht
              have hyes := Lib.hid (of_decide_eq_true ht.symm)
              clear ht k1 k2 k3
              go_wp2_with (first | (go_at_call 19; refine (HD.out _).mono ?_; rintro e w' ⟨rfl, rfl⟩) | (go_at_call 20; refine (HU.out _).mono ?_; rintro e w' ⟨rfl, rfl⟩))
              go_round
              case rel => exact ⟨m, b, by omega, rfl, rfl, M0.out, hyes.out, HR1.out hyes.out⟩
              case measure => simp [intOf]
          · have h2 := k2; unfold eqDU at h2
            rw [k2, Bool.true_or] at ht
            have hyes := Lib.hid (of_decide_eq_true ht.symm)
            clear ht k1 k2
            go_wp2_with (first | (go_at_call 19; refine (HD.out _).mono ?_; rintro e w' ⟨rfl, rfl⟩) | (go_at_call 20; refine (HU.out _).mono ?_; rintro e w' ⟨rfl, rfl⟩))
            go_round
            case rel => exact ⟨m, b, by omega, rfl, rfl, M0.out, hyes.out, HR1.out hyes.out⟩
            case measure => simp [intOf]
end Fl
end Go.Proofs.Ytjcjffakemcalaa
