/- THE WALK of FloatsNext: it returns true, and changes nothing but the count of draws. -/
import Derived.Test.YtjcjffakemcalaaFlOrder
set_option linter.unusedSimpArgs false
set_option linter.unusedVariables false
namespace Go.Proofs.Ytjcjffakemcalaa
open Go.RowKit
namespace Fl

theorem ky_num {x : Nat} (h : nan x = false) : ky x = if 9223372036854775808 ≤ x then 18446744073709551615 - x else x + 9223372036854775808 := by unfold ky; rw [h]; rfl

theorem atN_ky {x : Nat} (hx : x < 18446744073709551616) (h : nan x = false) : atN (ky x) = x := by
  rw [ky_num h]; unfold atN; (repeat' split) <;> omega

theorem sameB_self (x : Nat) : sameB x x = true := by unfold sameB; simp

theorem nxt_facts {x : Nat} (hx : x < 18446744073709551616) :
    ((rnxt x).2 = false → nxt x = (0, 16) ∧ rnxt x = (0, false)) ∧
    ((rnxt x).2 = true → nxt x = ((rnxt x).1, 0) ∧ (rnxt x).1 < 18446744073709551616 ∧ ky (rnxt x).1 = ky x + 1 ∧ nan (rnxt x).1 = false ∧ nan x = false) := by
  cases h : nan x
  · have hm : x % 9223372036854775808 ≤ 9218868437227405312 := by unfold nan at h; simpa using h
    have hc := cls_eq h
    have hk := ky_num h
    have w1 := IntKind.wrap_u64 ((x : Int) - 1)
    have w2 := IntKind.wrap_u64 ((x : Int) + 1)
    by_cases c5 : x = 9218868437227405312
    · subst c5; decide
    by_cases c0 : x = 18442240474082181120
    · subst c0; decide
    by_cases c3 : x = 0
    · subst c3; decide
    by_cases c2 : x = 9223372036854775808
    · subst c2; decide
    rw [if_neg c5, if_neg c0, if_neg c3, if_neg c2] at hc
    by_cases s : 9223372036854775808 ≤ x
    · rw [if_pos s] at hc hk
      have e : rnxt x = (x - 1, true) := by
        unfold rnxt; rw [hc, w1, show ((x : Int) - 1) % 18446744073709551616 = ((x - 1 : Nat) : Int) by omega, Int.toNat_natCast]; rfl
      have n : nan (x - 1) = false := by unfold nan; simp; omega
      rw [e]
      refine ⟨fun h => by simp at h, fun _ => ⟨?_, by simp; omega, ?_, n, rfl⟩⟩
      · unfold nxt; rw [hk, if_pos (by omega)]; unfold atN; rw [if_neg (by omega), show 18446744073709551615 - (18446744073709551615 - x + 1) = x - 1 by omega]
      · show ky (x - 1) = _; rw [ky_num n, if_pos (by omega), hk]; omega
    · rw [if_neg s] at hc hk
      have e : rnxt x = (x + 1, true) := by
        unfold rnxt; rw [hc, w2, show ((x : Int) + 1) % 18446744073709551616 = ((x + 1 : Nat) : Int) by omega, Int.toNat_natCast]; rfl
      have n : nan (x + 1) = false := by unfold nan; simp; omega
      rw [e]
      refine ⟨fun h => by simp at h, fun _ => ⟨?_, by simp; omega, ?_, n, rfl⟩⟩
      · unfold nxt; rw [hk, if_pos (by omega)]; unfold atN; rw [if_pos (by omega), show x + 9223372036854775808 + 1 - 9223372036854775808 = x + 1 by omega]
      · have hk2 := ky_num n
        rw [if_neg (by omega)] at hk2
        show ky (x + 1) = ky x + 1
        omega
  · have hc : cls x = 6 := by unfold cls; rw [h]; rfl
    have hk : ky x = 18446744073709551615 := by unfold ky; rw [h]; rfl
    have e : rnxt x = (0, false) := by unfold rnxt; rw [hc]; rfl
    rw [e]
    refine ⟨fun _ => ⟨?_, rfl⟩, fun h => by simp at h⟩
    unfold nxt; rw [hk, if_neg (by omega)]

theorem prv_facts {x : Nat} (hx : x < 18446744073709551616) :
    ((rprv x).2 = false → prv x = (0, 16) ∧ rprv x = (0, false)) ∧
    ((rprv x).2 = true → prv x = ((rprv x).1, 0) ∧ (rprv x).1 < 18446744073709551616) := by
  cases h : nan x
  · have hm : x % 9223372036854775808 ≤ 9218868437227405312 := by unfold nan at h; simpa using h
    have hc := cls_eq h
    have hk := ky_num h
    have w1 := IntKind.wrap_u64 ((x : Int) - 1)
    have w2 := IntKind.wrap_u64 ((x : Int) + 1)
    by_cases c5 : x = 9218868437227405312
    · subst c5; decide
    by_cases c0 : x = 18442240474082181120
    · subst c0; decide
    by_cases c3 : x = 0
    · subst c3; decide
    by_cases c2 : x = 9223372036854775808
    · subst c2; decide
    rw [if_neg c5, if_neg c0, if_neg c3, if_neg c2] at hc
    by_cases s : 9223372036854775808 ≤ x
    · rw [if_pos s] at hc hk
      have e : rprv x = (x + 1, true) := by
        unfold rprv; rw [hc, w2, show ((x : Int) + 1) % 18446744073709551616 = ((x + 1 : Nat) : Int) by omega, Int.toNat_natCast]; rfl
      rw [e]
      refine ⟨fun h => by simp at h, fun _ => ⟨?_, by simp; omega⟩⟩
      unfold prv; rw [hk, if_pos (by omega)]; unfold atN; rw [if_neg (by omega), show 18446744073709551615 - (18446744073709551615 - x - 1) = x + 1 by omega]
    · rw [if_neg s] at hc hk
      have e : rprv x = (x - 1, true) := by
        unfold rprv; rw [hc, w1, show ((x : Int) - 1) % 18446744073709551616 = ((x - 1 : Nat) : Int) by omega, Int.toNat_natCast]; rfl
      rw [e]
      refine ⟨fun h => by simp at h, fun _ => ⟨?_, by simp; omega⟩⟩
      unfold prv; rw [hk, if_pos (by omega)]; unfold atN; rw [if_pos (by omega), show x + 9223372036854775808 - 1 - 9223372036854775808 = x - 1 by omega]
  · have hc : cls x = 6 := by unfold cls; rw [h]; rfl
    have hk : ky x = 18446744073709551615 := by unfold ky; rw [h]; rfl
    have e : rprv x = (0, false) := by unfold rprv; rw [hc]; rfl
    rw [e]
    refine ⟨fun _ => ⟨?_, rfl⟩, fun h => by simp at h⟩
    unfold prv; rw [hk, if_neg (by omega)]

set_option maxHeartbeats 400000 in
theorem lawNext (x y : Nat) (w : World) (hx : x < 18446744073709551616) (hy : y < 18446744073709551616) :
    Calls Try.prog 4 #[.float .f64 x, .float .f64 y] w (DrewB w true) := by
  have HL := Lib.hid lives_any
  obtain ⟨n1, n2⟩ := nxt_facts hx
  obtain ⟨p1, p2⟩ := prv_facts hx
  have gp : givesB (prv x).1 (prv x).2 (rprv x).1 (rprv x).2 = true ∧ (prv x).1 < 18446744073709551616 ∧ (rprv x).1 < 18446744073709551616 := by
    cases h : (rprv x).2
    · obtain ⟨e1, e2⟩ := p1 h
      rw [e1, e2]; decide
    · obtain ⟨e1, e2⟩ := p2 h
      rw [e1]; unfold givesB; rw [if_pos rfl, sameB_self]; exact ⟨rfl, e2, e2⟩
  clear p1 p2
  have hn := fun w => next_any x w hx
  have hp := fun w => prev_any x w hx
  have rn := fun w => rnext_any x w hx
  have rp := fun w => rprev_any x w hx
  obtain ⟨gp1, gp2, gp3⟩ := gp
  have HG2 := Lib.hid (fun w => gives_any (prv x).1 (prv x).2 (rprv x).1 (rprv x).2 w gp2 gp3)
  rw [gp1] at HG2
  cases h : (rnxt x).2
  · obtain ⟨e1, e2⟩ := n1 h
    rw [e1] at hn
    rw [e2] at rn
    have HG1 := Lib.hid (fun w => gives_any 0 16 0 false w (by decide) (by decide))
    rw [show givesB 0 16 0 false = true from by decide] at HG1
    clear n1 n2 e1 e2 gp1 gp2 gp3 h
    have HN := Lib.hid hn; have HP := Lib.hid hp; have RN := Lib.hid rn; have RP := Lib.hid rp
    clear hn hp rn rp hx hy
    generalize (prv x).1 = b at *
    generalize (prv x).2 = f at *
    generalize (rprv x).1 = b' at *
    generalize (rprv x).2 = f' at *
    go_enter Try.func4, Try.ntmps4
    go_wp2_with (first
      | (go_at_call 12; ((with_reducible refine (HN.out _).mono ?_); rintro e w' ⟨rfl, rfl⟩))
      | (go_at_call 13; ((with_reducible refine (HP.out _).mono ?_); rintro e w' ⟨rfl, rfl⟩))
      | (go_at_call 14; ((with_reducible refine (RN.out _).mono ?_); rintro e w' ⟨rfl, rfl⟩))
      | (go_at_call 15; ((with_reducible refine (RP.out _).mono ?_); rintro e w' ⟨rfl, rfl⟩))
      | (go_at_call 16; ((with_reducible refine (HG1.out _).mono ?_); rintro e w' ⟨rfl, rfl⟩))
      | (go_at_call 16; ((with_reducible refine (HG2.out _).mono ?_); rintro e w' ⟨rfl, rfl⟩))
      | (go_at_call 11; ((with_reducible refine (HL.out _).mono ?_); rintro e w' ⟨n, rfl, rfl⟩)))
    go_ret
    exact ⟨_, rfl, rfl⟩
  · obtain ⟨e1, e2, e3, e4, e5⟩ := n2 h
    have hr : rnxt x = ((rnxt x).1, true) := by rw [← h]
    rw [e1] at hn
    rw [h] at rn
    generalize (rnxt x).1 = a at *
    have HG1 := Lib.hid (fun w => gives_any a 0 a true w e2 e2)
    rw [show givesB a 0 a true = true from by unfold givesB; rw [if_pos rfl, sameB_self]; rfl] at HG1
    have HG3 := Lib.hid (fun w => gives_any x 0 x true w hx hx)
    rw [show givesB x 0 x true = true from by unfold givesB; rw [if_pos rfl, sameB_self]; rfl] at HG3
    have hb := fun w => prev_any a w e2
    have hpa : prv a = (x, 0) := by
      have k0 : 4503599627370495 ≤ ky x := by
        have hm : x % 9223372036854775808 ≤ 9218868437227405312 := by unfold nan at e5; simpa using e5
        rw [ky_num e5]; split <;> omega
      have k1 : ky a ≠ 18446744073709551615 := by
        have hm : a % 9223372036854775808 ≤ 9218868437227405312 := by unfold nan at e4; simpa using e4
        rw [ky_num e4]; split <;> omega
      unfold prv; rw [if_pos ⟨k1, by omega⟩, show ky a - 1 = ky x by omega, atN_ky hx e5]
    rw [hpa] at hb
    have ho := fun w => order_any x a w hx e2
    rw [show cmpI ((ky x : Nat) : Int) ((ky a : Nat) : Int) = -1 from (cmpI_lt (by omega)).symm] at ho
    have ho2 := fun w => order_any x y w hx hy
    have ho3 := fun w => order_any y a w hy e2
    have hbt : cmpI ((ky x : Nat) : Int) ((ky y : Nat) : Int) < 0 → 0 ≤ cmpI ((ky y : Nat) : Int) ((ky a : Nat) : Int) := by
      rw [e3]; unfold cmpI; (repeat' split) <;> omega
    generalize cmpI ((ky x : Nat) : Int) ((ky y : Nat) : Int) = o2 at *
    generalize cmpI ((ky y : Nat) : Int) ((ky a : Nat) : Int) = o3 at *
    clear n1 n2 e1 e2 e3 e4 e5 gp1 gp2 gp3 h hr hpa
    have HN := Lib.hid hn; have HP := Lib.hid hp; have RN := Lib.hid rn; have RP := Lib.hid rp; have HB := Lib.hid hb; have HO := Lib.hid ho; have HO2 := Lib.hid ho2; have HO3 := Lib.hid ho3
    clear hn hp rn rp hx hy hb ho ho2 ho3
    generalize (prv x).1 = b at *
    generalize (prv x).2 = f at *
    generalize (rprv x).1 = b' at *
    generalize (rprv x).2 = f' at *
    by_cases q : o2 < 0
    · have q2 := hbt q
      clear hbt
      go_enter Try.func4, Try.ntmps4
      go_wp2_with (first
        | (go_at_call 12; ((with_reducible refine (HN.out _).mono ?_); rintro e w' ⟨rfl, rfl⟩))
        | (go_at_call 13; ((with_reducible refine (HP.out _).mono ?_); rintro e w' ⟨rfl, rfl⟩))
        | (go_at_call 13; ((with_reducible refine (HB.out _).mono ?_); rintro e w' ⟨rfl, rfl⟩))
        | (go_at_call 8; ((with_reducible refine (HO.out _).mono ?_); rintro e w' ⟨rfl, rfl⟩))
        | (go_at_call 8; ((with_reducible refine (HO2.out _).mono ?_); rintro e w' ⟨rfl, rfl⟩))
        | (go_at_call 8; ((with_reducible refine (HO3.out _).mono ?_); rintro e w' ⟨rfl, rfl⟩))
        | (go_at_call 14; ((with_reducible refine (RN.out _).mono ?_); rintro e w' ⟨rfl, rfl⟩))
        | (go_at_call 15; ((with_reducible refine (RP.out _).mono ?_); rintro e w' ⟨rfl, rfl⟩))
        | (go_at_call 16; ((with_reducible refine (HG1.out _).mono ?_); rintro e w' ⟨rfl, rfl⟩))
        | (go_at_call 16; ((with_reducible refine (HG2.out _).mono ?_); rintro e w' ⟨rfl, rfl⟩))
        | (go_at_call 16; ((with_reducible refine (HG3.out _).mono ?_); rintro e w' ⟨rfl, rfl⟩))
        | (go_at_call 11; ((with_reducible refine (HL.out _).mono ?_); rintro e w' ⟨n, rfl, rfl⟩)))
      go_ret
      exact ⟨_, rfl, rfl⟩
    · clear hbt
      go_enter Try.func4, Try.ntmps4
      go_wp2_with (first
        | (go_at_call 12; ((with_reducible refine (HN.out _).mono ?_); rintro e w' ⟨rfl, rfl⟩))
        | (go_at_call 13; ((with_reducible refine (HP.out _).mono ?_); rintro e w' ⟨rfl, rfl⟩))
        | (go_at_call 13; ((with_reducible refine (HB.out _).mono ?_); rintro e w' ⟨rfl, rfl⟩))
        | (go_at_call 8; ((with_reducible refine (HO.out _).mono ?_); rintro e w' ⟨rfl, rfl⟩))
        | (go_at_call 8; ((with_reducible refine (HO2.out _).mono ?_); rintro e w' ⟨rfl, rfl⟩))
        | (go_at_call 14; ((with_reducible refine (RN.out _).mono ?_); rintro e w' ⟨rfl, rfl⟩))
        | (go_at_call 15; ((with_reducible refine (RP.out _).mono ?_); rintro e w' ⟨rfl, rfl⟩))
        | (go_at_call 16; ((with_reducible refine (HG1.out _).mono ?_); rintro e w' ⟨rfl, rfl⟩))
        | (go_at_call 16; ((with_reducible refine (HG2.out _).mono ?_); rintro e w' ⟨rfl, rfl⟩))
        | (go_at_call 16; ((with_reducible refine (HG3.out _).mono ?_); rintro e w' ⟨rfl, rfl⟩))
        | (go_at_call 11; ((with_reducible refine (HL.out _).mono ?_); rintro e w' ⟨n, rfl, rfl⟩)))
      go_ret
      exact ⟨_, rfl, rfl⟩
end Fl
end Go.Proofs.Ytjcjffakemcalaa
