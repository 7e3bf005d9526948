/- THE WALKS of layer 2's reference: sizes, near, Down, Up. -/
import Derived.Test.YtjcjffakemcalaaFlRef
import Derived.Test.YtjcjffakemcalaaFlDown
set_option linter.unusedSimpArgs false
set_option linter.unusedVariables false
namespace Go.Proofs.Ytjcjffakemcalaa
open Go.RowKit
namespace Fl

theorem vi {k : IntKind} {a b : Int} (h : a = b) : Value.int k a = Value.int k b := by rw [h]
theorem vb {a b : Bool} (h : a = b) : Value.bool a = Value.bool b := by rw [h]

theorem rep_int {c : Nat} (h : c ≤ 9007199254740992) : mg (dn (c * U)) = c * U := by
  by_cases c1 : c < 9007199254740992
  · exact mg_dn_int c1
  · have e : mg (E * 4503599627370496 + c) = c * U := by rw [mgk h (Or.inr (by omega)), U_pow]
    rw [← e, dn_mg]

/-- 'float64(c)' of a small c. -/
theorem float_small {c : Nat} (h : c ≤ 9007199254740992) : floatOfInt .f64 (c : Int) = dn (c * U) := by
  rw [floatOfInt_eq (by omega), Int.natAbs_natCast]
  have hw : ∀ r, wd false r = r := fun r => by unfold wd; simp
  rw [decide_eq_false (by omega), hw]
  have := rr_mg (dn (c * U))
  rw [rep_int h] at this
  exact this

/-- The state of the first loop: k halvings. -/
def lostB (m k : Nat) : Bool := m % 2 ^ k != 0

theorem lost_succ (m k : Nat) : lostB m (k + 1) = (lostB m k || (m / 2 ^ k % 2 == 1)) := by
  unfold lostB
  have e : m % 2 ^ (k + 1) = m % 2 ^ k + 2 ^ k * (m / 2 ^ k % 2) := Nat.mod_pow_succ
  have hp := Nat.two_pow_pos k
  rw [e]
  rcases Nat.mod_two_eq_zero_or_one (m / 2 ^ k) with h | h
  · rw [h]; simp
  · rw [h, Nat.mul_one, Bool.eq_iff_iff]
    simp

/-- What the reference's near gives. -/
def rnearW (m : Nat) (up : Bool) : Nat := if up then upr (m * U) else dn (m * U)

theorem near_end {m k : Nat} (h1 : m / 2 ^ k < 9007199254740992) (h2 : k = 0 ∨ 4503599627370496 ≤ m / 2 ^ k) :
    mg (dn (m * U)) = m / 2 ^ k * 2 ^ k * U ∧ (lostB m k = true → mg (dn (m * U) + 1) = (m / 2 ^ k + 1) * 2 ^ k * U) ∧ (mg (dn (m * U)) = m * U ↔ lostB m k = false) := by
  have hp := Nat.two_pow_pos k
  have hdm := Nat.div_add_mod m (2 ^ k)
  rw [Nat.mul_comm] at hdm
  have key : dn (m * U) = if k = 0 then dn (m * U) else (k + E) * 4503599627370496 + m / 2 ^ k := by
    by_cases hk : k = 0
    · rw [if_pos hk]
    · rw [if_neg hk]
      symm
      have hq : 4503599627370496 ≤ m / 2 ^ k := by omega
      refine dn_unique ?_ ?_
      · rw [mgk (by omega) (Or.inr hq), Nat.pow_add, ← U_pow, ← Nat.mul_assoc]
        exact Nat.mul_le_mul_right _ (by omega)
      · rw [Nat.add_assoc, mgk (by omega) (Or.inr (by omega)), Nat.pow_add, ← U_pow, ← Nat.mul_assoc]
        refine Nat.mul_lt_mul_of_pos_right ?_ U_pos
        have := Nat.mod_lt m hp
        rw [Nat.add_mul]; omega
  by_cases hk : k = 0
  · subst hk
    simp only [Nat.pow_zero, Nat.div_one, Nat.mul_one] at h1 ⊢
    have hr := rep_int (c := m) (by omega)
    refine ⟨hr, ?_, ?_⟩
    · unfold lostB; simp [Nat.mod_one]
    · unfold lostB; simp [Nat.mod_one, hr]
  · rw [if_neg hk] at key
    have hq : 4503599627370496 ≤ m / 2 ^ k := by omega
    have e1 : mg (dn (m * U)) = m / 2 ^ k * 2 ^ k * U := by
      rw [key, mgk (by omega) (Or.inr hq), Nat.pow_add, ← U_pow, ← Nat.mul_assoc]
    refine ⟨e1, ?_, ?_⟩
    · intro _
      rw [key, Nat.add_assoc, mgk (by omega) (Or.inr (by omega)), Nat.pow_add, ← U_pow, ← Nat.mul_assoc]
    · rw [e1]
      unfold lostB
      constructor
      · intro h
        have := Nat.eq_of_mul_eq_mul_right U_pos h
        simp; omega
      · intro h
        simp at h
        rw [show m / 2 ^ k * 2 ^ k = m by omega]

theorem rsize_any (n : Int) (w : World) (l0 : -9223372036854775808 ≤ n) (l1 : n < 9223372036854775808) :
    Calls Try.prog 38 #[.int .i64 n] w fun e w' => e = .returned (.int .u64 (n.natAbs : Int)) ∧ w = w' := by
  by_cases c : n < 0
  · go_enter Try.func38, Try.ntmps38
    go_wp2
    go_ret
    exact ⟨ri (by omega), rfl⟩
  · have c' : 0 ≤ n := by omega
    go_enter Try.func38, Try.ntmps38
    go_wp2
    go_ret
    exact ⟨ri (by omega), rfl⟩


theorem half_facts {m k : Nat} (hm : m < 18446744073709551616) (hk : k = 0 ∨ 9007199254740992 ≤ m / 2 ^ (k - 1)) : k ≤ 11 := by
  rcases hk with h | h
  · omega
  · by_cases c : k ≤ 11
    · exact c
    · exfalso
      have h1 : 2 ^ 11 ≤ 2 ^ (k - 1) := Nat.pow_le_pow_right (by omega) (by omega)
      have h2 : m / 2 ^ (k - 1) ≤ m / 2 ^ 11 := Nat.div_le_div_left h1 (by omega)
      omega

theorem add_run (r : Nat) (h : 2 * mg r < mg 9218868437227405312) (w : World) :
    (binOp .add 22 (.float .f64 r) (.float .f64 r)).run Try.prog w = .ok (.float .f64 (dn (2 * mg r))) w :=
  run_float_arith w .add 22 .f64 r r _ (add_self h).1

def Half (m k : Nat) : Prop := k = 0 ∨ 9007199254740992 ≤ m / 2 ^ (k - 1)

theorem half_succ {m k : Nat} (h : 9007199254740992 ≤ m / 2 ^ k) : Half m (k + 1) := Or.inr (by simpa using h)

theorem rnear_tail {m k c : Nat} {up : Bool} (hm : m < 18446744073709551616) (hk : Half m k) (h1 : m / 2 ^ k < 9007199254740992) (hc : c = if lostB m k && up then m / 2 ^ k + 1 else m / 2 ^ k) {r : Nat} (hr : mg r = c * 2 ^ k * U) : r = rnearW m up := by
  have h2 : k = 0 ∨ 4503599627370496 ≤ m / 2 ^ k := by
    rcases hk with h | h
    · exact Or.inl h
    · by_cases hz : k = 0
      · exact Or.inl hz
      · right
        have e : m / 2 ^ k = m / 2 ^ (k - 1) / 2 := by
          rw [Nat.div_div_eq_div_mul, ← Nat.pow_succ]; congr 2; omega
        omega
  obtain ⟨e1, e2, e3⟩ := near_end h1 h2
  unfold rnearW
  cases up
  · simp at hc; subst hc
    simp only [Bool.false_eq_true, if_false]
    exact mg_inj (by rw [hr, e1])
  · simp only [if_true]
    unfold upr
    cases hl : lostB m k
    · rw [hl] at hc; simp at hc; subst hc
      rw [if_pos (e3.2 hl)]
      exact mg_inj (by rw [hr, e1])
    · rw [hl] at hc; simp at hc; subst hc
      rw [if_neg (by rw [e3, hl]; decide)]
      exact mg_inj (by rw [hr, e2 hl])

theorem dbl_eq (c j : Nat) : 2 * (c * 2 ^ j * U) = c * 2 ^ (j + 1) * U := by
  rw [Nat.pow_succ]; generalize 2 ^ j = p; generalize U = u; ac_rfl

set_option maxHeartbeats 400000 in
theorem rnear_any (m0 : Int) (up : Bool) (w : World) (l0 : 0 ≤ m0) (l1 : m0 < 18446744073709551616) :
    Calls Try.prog 37 #[.int .u64 m0, .bool up] w fun e w' => e = .returned (.float .f64 (rnearW m0.toNat up)) ∧ w = w' := by
  obtain ⟨m, rfl⟩ := Int.eq_ofNat_of_zero_le l0
  rw [Int.toNat_natCast]
  have hm : m < 18446744073709551616 := by omega
  have HM := Lib.hid hm
  clear l0 l1 hm
  go_enter Try.func37, Try.ntmps37
  go_wp2
  go_loop [0, 5, 6] (fun q i l => ∃ k : Nat, Half m k ∧ q = .int .u64 ((m / 2 ^ k : Nat) : Int) ∧ i = .int .i64 (k : Int) ∧ l = .bool (lostB m k)) (fun q _ _ => (intOf q).toNat)
  case atStart => exact ⟨0, Or.inl rfl, by simp, rfl, by simp [lostB, Nat.mod_one]⟩
  case round =>
    obtain ⟨k, hk, rfl, rfl, rfl⟩ := hrel
    have hk11 := half_facts HM.out hk
    have hls := lost_succ m k
    have hq2 : m / 2 ^ (k + 1) = m / 2 ^ k / 2 := by rw [Nat.div_div_eq_div_mul, ← Nat.pow_succ]
    have hqb : m / 2 ^ k < 18446744073709551616 := Nat.lt_of_le_of_lt (Nat.div_le_self _ _) HM.out
    have hsucc := @half_succ m k
    have htail := @rnear_tail m k
    obtain ⟨q, hq⟩ : ∃ q, q = m / 2 ^ k := ⟨_, rfl⟩
    rw [← hq] at hls hq2 hqb hsucc htail ⊢
    have b0 : (0 : Int) ≤ (q : Int) := by omega
    have b1 : (q : Int) < 18446744073709551616 := by omega
    by_cases hlt : 9007199254740992 ≤ q
    · have hlt' : (9007199254740992 : Int) ≤ (q : Int) := by omega
      have hs := hsucc hlt
      have HS := Lib.hid hs; have HQ := Lib.hid hq2; have HL := Lib.hid hls
      clear hs hq2 hls hsucc htail hq hlt hqb
      cases hl : lostB m k
      · go_wp2
        go_round
        case rel => exact ⟨k + 1, HS.out, vi (by rw [HQ.out]; omega), by go_num, vb (by rw [HL.out, hl, Bool.false_or, Bool.eq_iff_iff, beq_iff_eq, beq_iff_eq]; omega)⟩
        case measure => simp [intOf]; omega
      · go_wp2
        go_round
        case rel => exact ⟨k + 1, HS.out, vi (by rw [HQ.out]; omega), by go_num, vb (by rw [HL.out, hl, Bool.true_or])⟩
        case measure => simp [intOf]; omega
    · have hlt' : ¬ (9007199254740992 : Int) ≤ (q : Int) := by omega
      have HT := fun c up => htail (c := c) (up := up) HM.out hk (by omega)
      clear hls hq2 hsucc htail hqb
      have hbig : ∀ c j, c ≤ 9007199254740992 → j < k → 2 * (c * 2 ^ j * U) < mg 9218868437227405312 := by
        intro c j h1 h2
        refine Nat.lt_of_le_of_lt ?_ big_lt
        rw [← Nat.mul_assoc]
        refine Nat.mul_le_mul_right _ ?_
        have : 2 ^ j ≤ 2 ^ 11 := Nat.pow_le_pow_right (by omega) (by omega)
        have := Nat.mul_le_mul h1 this
        omega
      have HB := Lib.hid hbig
      clear hbig hq hk
      have three : ∃ c : Nat, c ≤ 9007199254740992 ∧ (∀ r, mg r = c * 2 ^ k * U → r = rnearW m up) ∧ ((lostB m k = false ∧ c = q) ∨ (lostB m k = true ∧ up = false ∧ c = q) ∨ (lostB m k = true ∧ up = true ∧ c = q + 1)) := by
        cases hl : lostB m k
        · exact ⟨q, by omega, fun r => HT q up (by rw [hl]; rfl), Or.inl ⟨rfl, rfl⟩⟩
        · cases up
          · exact ⟨q, by omega, fun r => HT q false (by rw [hl]; rfl), Or.inr (Or.inl ⟨rfl, rfl, rfl⟩)⟩
          · exact ⟨q + 1, by omega, fun r => HT (q + 1) true (by rw [hl]; rfl), Or.inr (Or.inr ⟨rfl, rfl, rfl⟩)⟩
      clear HT hlt
      obtain ⟨c, hc, ht, three⟩ := three
      have TC := Lib.hid ht
      have f0 := float_small hc
      have RC := Lib.hid (rep_int hc)
      have QC := Lib.hid hc
      clear ht hc
      rcases three with ⟨hl, rfl⟩ | ⟨hl, rfl, rfl⟩ | ⟨hl, rfl, hcq⟩
      case inr.inr =>
        rw [show (c : Int) = (q : Int) + 1 from by omega] at f0
        clear hcq
        go_wp2
        go_loop [7, 8] (fun x i => ∃ j r : Nat, j ≤ k ∧ x = .float .f64 r ∧ i = .int .i64 (j : Int) ∧ mg r = c * 2 ^ j * U) (fun _ i => k - (intOf i).toNat)
        case atStart => exact ⟨0, _, by omega, rfl, rfl, by rw [RC.out, Nat.pow_zero, Nat.mul_one]⟩
        case round =>
          obtain ⟨j, r, hj, rfl, rfl, hr⟩ := hrel
          have HR := Lib.hid hr; clear hr
          by_cases hjk : j < k
          · have hb2 := HB.out c j QC.out hjk
            rw [← HR.out] at hb2
            have hadd := fun w => add_run r hb2 w
            have hnew : mg (dn (2 * mg r)) = c * 2 ^ (j + 1) * U := by rw [(add_self hb2).2, HR.out, dbl_eq]
            have HN := Lib.hid hnew
            clear hnew hb2
            go_wp2
            go_round
            case rel => exact ⟨j + 1, _, by omega, rfl, by go_num, HN.out⟩
            case measure => simp [intOf]; omega
          · have e : j = k := by omega
            subst e
            go_wp2
            go_ret
            exact ⟨rf (TC.out _ HR.out), rfl⟩
      all_goals
        go_wp2
        go_loop [7, 8] (fun x i => ∃ j r : Nat, j ≤ k ∧ x = .float .f64 r ∧ i = .int .i64 (j : Int) ∧ mg r = c * 2 ^ j * U) (fun _ i => k - (intOf i).toNat)
        case atStart => exact ⟨0, _, by omega, rfl, rfl, by rw [RC.out, Nat.pow_zero, Nat.mul_one]⟩
        case round =>
          obtain ⟨j, r, hj, rfl, rfl, hr⟩ := hrel
          have HR := Lib.hid hr; clear hr
          by_cases hjk : j < k
          · have hb2 := HB.out c j QC.out hjk
            rw [← HR.out] at hb2
            have hadd := fun w => add_run r hb2 w
            have hnew : mg (dn (2 * mg r)) = c * 2 ^ (j + 1) * U := by rw [(add_self hb2).2, HR.out, dbl_eq]
            have HN := Lib.hid hnew
            clear hnew hb2
            go_wp2
            go_round
            case rel => exact ⟨j + 1, _, by omega, rfl, by go_num, HN.out⟩
            case measure => simp [intOf]; omega
          · have e : j = k := by omega
            subst e
            go_wp2
            go_ret
            exact ⟨rf (TC.out _ HR.out), rfl⟩

theorem upr_le {n : Int} (l0 : -9223372036854775808 ≤ n) (l1 : n < 9223372036854775808) : upr (n.natAbs * U) < 9218868437227405312 := by
  have h1 : 36893488147419103232 * U < mg 9218868437227405311 := by decide +kernel
  have h2 : n.natAbs * U ≤ 9223372036854775808 * U := Nat.mul_le_mul_right _ (by omega)
  have := @dn_lt (n.natAbs * U) 9218868437227405311 (by omega)
  unfold upr; split <;> omega

theorem dn_le_inf {n : Int} (l0 : -9223372036854775808 ≤ n) (l1 : n < 9223372036854775808) : dn (n.natAbs * U) < 9218868437227405312 := by
  have h := upr_le l0 l1
  unfold upr at h; split at h <;> omega

theorem negW_wd {r : Nat} (h : r ≤ 9218868437227405312) : negW r = wd true r := by
  rw [negW_eq (by omega), if_neg (by omega)]; rfl

theorem rdown_any (n : Int) (w : World) (l0 : -9223372036854775808 ≤ n) (l1 : n < 9223372036854775808) :
    Calls Try.prog 19 #[.int .i64 n] w fun e w' => e = .returned (.float .f64 (downW n)) ∧ w = w' := by
  have hs := fun w => rsize_any n w l0 l1
  have hn := fun up w => rnear_any (n.natAbs : Int) up w (by omega) (by omega)
  rw [Int.toNat_natCast] at hn
  have HS := Lib.hid hs; have HN := Lib.hid hn
  clear hs hn
  by_cases c : n < 0
  · have e : downW n = negW (rnearW n.natAbs true) := by unfold downW rnearW; rw [if_pos c, if_pos rfl, negW_wd (by have := upr_le l0 l1; omega)]
    have E := Lib.hid e; clear e l0 l1
    go_enter Try.func19, Try.ntmps19
    go_wp2_with (first | (go_at_call 38; refine (HS.out _).mono ?_; rintro e w' ⟨rfl, rfl⟩) | (go_at_call 37; refine (HN.out _ _).mono ?_; rintro e w' ⟨rfl, rfl⟩))
    go_ret
    exact ⟨rf E.out.symm, rfl⟩
  · have e : downW n = rnearW n.natAbs false := by unfold downW rnearW; rw [if_neg c, if_neg (by decide)]
    have E := Lib.hid e; clear e l0 l1
    go_enter Try.func19, Try.ntmps19
    go_wp2_with (first | (go_at_call 38; refine (HS.out _).mono ?_; rintro e w' ⟨rfl, rfl⟩) | (go_at_call 37; refine (HN.out _ _).mono ?_; rintro e w' ⟨rfl, rfl⟩))
    go_ret
    exact ⟨rf E.out.symm, rfl⟩
theorem rup_any (n : Int) (w : World) (l0 : -9223372036854775808 ≤ n) (l1 : n < 9223372036854775808) :
    Calls Try.prog 20 #[.int .i64 n] w fun e w' => e = .returned (.float .f64 (upW n)) ∧ w = w' := by
  have hs := fun w => rsize_any n w l0 l1
  have hn := fun up w => rnear_any (n.natAbs : Int) up w (by omega) (by omega)
  rw [Int.toNat_natCast] at hn
  have HS := Lib.hid hs; have HN := Lib.hid hn
  clear hs hn
  by_cases c : n < 0
  · have e : upW n = negW (rnearW n.natAbs false) := by unfold upW rnearW; rw [if_pos c, if_neg (by decide), negW_wd (by have := dn_le_inf l0 l1; omega)]
    have E := Lib.hid e; clear e l0 l1
    go_enter Try.func20, Try.ntmps20
    go_wp2_with (first | (go_at_call 38; refine (HS.out _).mono ?_; rintro e w' ⟨rfl, rfl⟩) | (go_at_call 37; refine (HN.out _ _).mono ?_; rintro e w' ⟨rfl, rfl⟩))
    go_ret
    exact ⟨rf E.out.symm, rfl⟩
  · have e : upW n = rnearW n.natAbs true := by unfold upW rnearW; rw [if_neg c, if_pos rfl]
    have E := Lib.hid e; clear e l0 l1
    go_enter Try.func20, Try.ntmps20
    go_wp2_with (first | (go_at_call 38; refine (HS.out _).mono ?_; rintro e w' ⟨rfl, rfl⟩) | (go_at_call 37; refine (HN.out _ _).mono ?_; rintro e w' ⟨rfl, rfl⟩))
    go_ret
    exact ⟨rf E.out.symm, rfl⟩
end Fl
end Go.Proofs.Ytjcjffakemcalaa
