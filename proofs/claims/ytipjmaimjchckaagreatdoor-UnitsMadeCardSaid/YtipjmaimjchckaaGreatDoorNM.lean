/- THE WALKS of layer 15's reference: Two, Agrees, Some, Season, Components. -/
import Derived.Test.YtipjmaimjchckaaGreatDoorNL
import Derived.Test.YtipjmaimjchckaaGreatDoorNE
/-! THE WALKS of layer 15's reference: Two, Agrees, Some, Season, Components. -/
set_option linter.unusedSimpArgs false
set_option linter.unusedVariables false
set_option maxRecDepth 100000
namespace Go.Proofs.YtipjmaimjchckaaGreatDoor
open Go.RowKit Go.Lib
namespace Bk
open Un (ba bt ri rb ret2_ii ret2_bi)

theorem rs {a b : ByteArray} (h : a = b) : Ending.returned (.string a) = .returned (.string b) := by rw [h]
set_option maxHeartbeats 1000000 in
theorem rTwo_any (n : Nat) (w : World) (h : n ≤ 99) :
    Calls Tryz.prog 95 #[.int .i64 n] w fun r w' => r = .returned (.string (twoS n)) ∧ Below w.heap.size w w' := by
  have HT := Lib.hid (two_cat n (by omega))
  unfold digS at HT
  go_enter Tryz.func95, Tryz.ntmps95
  go_wp2
  go_quiet (fail)
  go_wp2
  all_goals go_ret
  all_goals exact ⟨rs HT.out, below_drewN (Below.refl _ _) _⟩

set_option maxHeartbeats 1000000 in
theorem rAgrees_any (s : ByteArray) (n : Nat) (w : World) (h : n ≤ 99) :
    Calls Tryz.prog 92 #[.string s, .int .i64 n] w fun r w' => r = .returned (.int .i64 (if agrB s n then 1 else 0)) ∧ Below w.heap.size w w' := by
  have HT := Lib.hid (fun w => rTwo_any n w h)
  obtain ⟨R, hR⟩ : ∃ R : Int, R = if agrB s n then 1 else 0 := ⟨_, rfl⟩
  rw [← hR]
  have hRF : (s.size ≠ 2 → R = 0) ∧ (s.size = 2 → (byt s 0 = 88 ∨ byt s 0 = 48 + (n : Int) / 10) → (byt s 1 = 88 ∨ byt s 1 = 48 + (n : Int) % 10) → R = 1) ∧ (s.size = 2 → ¬ (byt s 0 = 88 ∨ byt s 0 = 48 + (n : Int) / 10) → R = 0) ∧ (s.size = 2 → ¬ (byt s 1 = 88 ∨ byt s 1 = 48 + (n : Int) % 10) → R = 0) := by
    rw [hR]
    refine ⟨fun h => by rw [agrB_size h]; rfl, fun h1 h2 h3 => ?_, fun h1 h2 => ?_, fun h1 h2 => ?_⟩
    · rw [if_pos]; unfold agrB; simp [h1, h2, h3]
    · rw [show agrB s n = false by unfold agrB; rw [Bool.eq_false_iff]; intro c; simp at c; omega]; rfl
    · rw [show agrB s n = false by unfold agrB; rw [Bool.eq_false_iff]; intro c; simp at c; omega]; rfl
  obtain ⟨t, ht⟩ : ∃ t, t = twoS n := ⟨_, rfl⟩
  rw [← ht] at HT
  have t2 : t.size = 2 := by rw [ht]; rfl
  have t20 : 0 < t.size := by omega
  have t21 : 1 < t.size := by omega
  have b0 : ((t[0]'t20).toNat : Int) = 48 + (n : Int) / 10 := by rw [← byt_get t 0 t20, ht]; exact twoS_0 h
  have b1 : ((t[1]'t21).toNat : Int) = 48 + (n : Int) % 10 := by rw [← byt_get t 1 t21, ht]; exact twoS_1 h
  by_cases c : s.size = 2
  · have s0 : 0 < s.size := by omega
    have s1 : 1 < s.size := by omega
    rw [byt_get s 0 s0, byt_get s 1 s1, ← b0, ← b1] at hRF
    obtain ⟨a0, g0⟩ : ∃ b, (((s[0]'s0).toNat : Int) == 88) = b := ⟨_, rfl⟩
    obtain ⟨a1, g1⟩ : ∃ b, (((s[0]'s0).toNat : Int) == ((t[0]'t20).toNat : Int)) = b := ⟨_, rfl⟩
    obtain ⟨c0, g2⟩ : ∃ b, (((s[1]'s1).toNat : Int) == 88) = b := ⟨_, rfl⟩
    obtain ⟨c1, g3⟩ : ∃ b, (((s[1]'s1).toNat : Int) == ((t[1]'t21).toNat : Int)) = b := ⟨_, rfl⟩
    have hR2 : R = if (a0 || a1) && (c0 || c1) then 1 else 0 := by
      subst g0 g1 g2 g3
      simp only [Bool.and_eq_true, Bool.or_eq_true, beq_iff_eq]
      split
      · rename_i h; exact hRF.2.1 c h.1 h.2
      · rename_i h
        by_cases q : (((s[0]'s0).toNat : Int) = 88 ∨ ((s[0]'s0).toNat : Int) = ((t[0]'t20).toNat : Int))
        · exact hRF.2.2.2 c (fun e => h ⟨q, e⟩)
        · exact hRF.2.2.1 c q
    replace hR2 := Lib.hid hR2
    clear hRF hR b0 b1 ht
    cases a0 <;> cases a1 <;> cases c0 <;> cases c1
    all_goals
      as_aux_lemma =>
        go_enter Tryz.func92, Tryz.ntmps92
        go_wp2_with (go_at_call 95; with_reducible refine (HT.out _).mono ?_; rintro _ w' ⟨rfl, hb⟩)
        go_quiet (fail)
        go_wp2
        go_ret
        exact ⟨ri hR2.out.symm, below_drewN hb _⟩
  · have hR0 := hRF.1 c
    clear hR hRF ht b0 b1
    subst hR0
    have c2 : ((s.size : Int) == 2) = false := by rw [beq_eq_false_iff_ne]; omega
    clear c t20 t21 t2
    go_enter Tryz.func92, Tryz.ntmps92
    go_wp2_with (go_at_call 95; with_reducible refine (HT.out _).mono ?_; rintro _ w' ⟨rfl, hb⟩)
    clear HT
    go_quiet (fail)
    go_wp2
    go_ret
    exact ⟨rfl, below_drewN hb _⟩

theorem rSome_any (s : ByteArray) (g : Nat) (w : World) (hg : g ≤ 99) :
    Calls Tryz.prog 86 #[.string s, .int .i64 g] w fun r w' => r = .returned (.int .i64 (if someA s g then 1 else 0)) ∧ Below w.heap.size w w' := by
  have HT := Lib.hid (fun (k : Nat) (hk : k < g) (x : Int) (hx : x = if agrB s ((k : Int) + 1) then 1 else 0) w => (by rw [hx]; exact rAgrees_any s (k + 1) w (by omega) : Calls Tryz.prog 92 #[.string s, .int .i64 ((k : Int) + 1)] w fun r w' => r = .returned (.int .i64 x) ∧ Below w.heap.size w w'))
  have HM := Lib.hid (fun (k : Nat) (h : k < g) (ht : agrB s ((k : Int) + 1) = true) => (someA_mono (s := s) (g := k + 1) (h := g) (by omega) (by rw [someA_succ, ht, Bool.or_true]) : someA s g = true))
  have HN := Lib.hid (fun (k : Nat) (h : someA s k = false) (ht : agrB s ((k : Int) + 1) = false) => (by rw [someA_succ, h, ht]; rfl : someA s (k + 1) = false))
  obtain ⟨R, hR⟩ : ∃ R : Int, R = if someA s g then 1 else 0 := ⟨_, rfl⟩
  rw [← hR]
  replace hR := Lib.hid hR
  go_enter Tryz.func86, Tryz.ntmps86
  go_wp2
  go_loopw [5] (fun i wr => ∃ k : Nat, k ≤ g ∧ i = .int .i64 ((k : Int) + 1) ∧ someA s k = false ∧ Below w.heap.size w wr) (fun i _ => g + 1 - (intOf i).toNat)
  case atStart => exact ⟨0, Nat.zero_le _, rfl, rfl, Below.refl _ _⟩
  case round =>
    obtain ⟨k, hk, rfl, hz, hb⟩ := hrel
    by_cases hlt : k < g
    · have hT := fun x hx w => HT.out k hlt x hx w
      have HB := Lib.hid hb
      have HZ := Lib.hid hz
      clear hb hz
      cases ha : agrB s ((k : Int) + 1)
      · have HT2 := Lib.hid (hT 0 (by rw [ha]; rfl))
        have HA := Lib.hid ha
        clear hT ha
        go_wp2_with (go_at_call 92; with_reducible refine (HT2.out _).mono ?_; rintro _ w' ⟨rfl, hb⟩)
        go_roundw
        case rel => exact ⟨k + 1, by omega, by go_num, HN.out k HZ.out HA.out, bt HB.out hb⟩
        case measure => simp [intOf]; omega
      · have HT2 := Lib.hid (hT 1 (by rw [ha]; rfl))
        have HA := Lib.hid ha
        clear hT ha
        go_wp2_with (go_at_call 92; with_reducible refine (HT2.out _).mono ?_; rintro _ w' ⟨rfl, hb⟩)
        go_ret
        exact ⟨ri (by rw [hR.out, HM.out k hlt HA.out]; rfl), bt HB.out hb⟩
    · obtain rfl : k = g := by omega
      have HB := Lib.hid hb
      have HZ := Lib.hid hz
      clear hb hz
      go_wp2
      go_ret
      exact ⟨ri (by rw [hR.out, HZ.out]; rfl), HB.out⟩

theorem rComps_any (d : Dt) (w : World) :
    Calls Tryz.prog 67 #[dtv d] w fun r w' => r = .returned (.int .i64 (comps d.mo d.da)) ∧ Below w.heap.size w w' := by
  have hD := Dm.new d w 52
  obtain ⟨R, hR⟩ : ∃ R, R = comps d.mo d.da := ⟨_, rfl⟩
  rw [← hR]
  unfold comps at hR
  unfold dtv
  rcases emp_cases d.mo with ⟨e0, m0⟩ | ⟨e0, m0⟩ <;> rcases emp_cases d.da with ⟨e1, m1⟩ | ⟨e1, m1⟩
  all_goals
    first | rw [if_pos e0] at hR | rw [if_neg e0] at hR
    first | rw [if_pos e1] at hR | rw [if_neg e1] at hR
    replace hR := Lib.hid hR
    clear e0 e1
    go_enter Tryz.func67, Tryz.ntmps67
    go_upto_region 1 with (fail)
    generalize w.alloc (.cells #[.bool d.neg, .bool d.long, .string d.dg, .int .i64 d.ex, .int .i64 d.sig, .string d.mo, .string d.da, .int .u8 d.m0, .int .u8 d.m1, .int .u8 d.m2] 52) = W0 at hD ⊢
    obtain ⟨q0, q1, q2, q3, q4, q5, q6, q7, q8, q9, qB⟩ := id hD
    go_wp2
    go_ret
    exact ⟨ri (by rw [hR.out]; rfl), hD.below⟩

set_option maxHeartbeats 1000000 in
theorem rSeason_any (d : Dt) (w : World) :
    Calls Tryz.prog 65 #[dtv d] w fun r w' => r = .returned (.int .i64 d.season) ∧ Below w.heap.size w w' := by
  have hD := Dm.new d w 52
  have HT := Lib.hid (fun (c : Nat) w (h : c ≤ 41) => rTwo_any c w (by omega))
  have HS := Lib.hid (fun (c : Nat) (h0 : 21 ≤ c) (h1 : c ≤ 41) => (twoS_season (s := d.mo) h0 h1))
  have HBD := Lib.hid (seasonC_bd d.mo)
  unfold Dt.season
  generalize seasonC d.mo = z at *
  unfold dtv
  go_enter Tryz.func65, Tryz.ntmps65
  go_upto_region 1 with (fail)
  generalize w.alloc (.cells #[.bool d.neg, .bool d.long, .string d.dg, .int .i64 d.ex, .int .i64 d.sig, .string d.mo, .string d.da, .int .u8 d.m0, .int .u8 d.m1, .int .u8 d.m2] 52) = W0 at hD ⊢
  go_wp2
  go_loopw [3] (fun i wr => ∃ c : Nat, 21 ≤ c ∧ c ≤ 42 ∧ i = .int .i64 c ∧ (z = 0 ∨ (c : Int) ≤ z) ∧ Dm w.heap.size d w wr) (fun i _ => 42 - (intOf i).toNat)
  case atStart => exact ⟨21, by omega, by omega, rfl, by have := HBD.out; omega, hD⟩
  case round =>
    obtain ⟨c, h0, h1, rfl, hz, hD⟩ := hrel
    obtain ⟨q0, q1, q2, q3, q4, q5, q6, q7, q8, q9, qB⟩ := id hD
    by_cases hlt : c ≤ 41
    · have hT := fun w => HT.out c w hlt
      have hS := HS.out c h0 hlt
      generalize twoS c = t at *
      have hb : (d.mo.toList == t.toList) = decide (d.mo = t) := toList_beq _ _
      have HT2 := Lib.hid hT
      have HZ := Lib.hid hz
      clear hT hz HT HS
      by_cases e : d.mo = t
      · have hv := hS.1 e
        rw [decide_eq_true e] at hb
        have HV := Lib.hid hv
        clear e hS hv
        go_wp2
        go_region_with (go_at_call 95; with_reducible refine (HT2.out _).mono ?_; rintro _ w' ⟨rfl, hb⟩; have hD := hD.later (by first | exact hb | exact bt (Below.refl _ _).drew hb | exact bt (Below.refl _ _).drew.drew hb); obtain ⟨q0, q1, q2, q3, q4, q5, q6, q7, q8, q9, qB⟩ := id hD)
        all_goals (go_wp2_with fail)
        all_goals go_ret
        all_goals exact ⟨ri HV.out.symm, hD.below⟩
      · have hv : ¬ z = c := fun h => e (hS.2 h)
        rw [decide_eq_false e] at hb
        have HV := Lib.hid hv
        clear e hS hv
        go_wp2
        go_region_with (go_at_call 95; with_reducible refine (HT2.out _).mono ?_; rintro _ w' ⟨rfl, hb⟩; have hD := hD.later (by first | exact hb | exact bt (Below.refl _ _).drew hb | exact bt (Below.refl _ _).drew.drew hb); obtain ⟨q0, q1, q2, q3, q4, q5, q6, q7, q8, q9, qB⟩ := id hD)
        all_goals (go_wp2_with fail)
        all_goals go_roundw
        all_goals first
          | exact ⟨c + 1, by omega, by omega, by go_num, by have := HV.out; have := HZ.out; omega, hD⟩
          | (simp [intOf]; omega)
    · obtain rfl : c = 42 := by omega
      have HV : Hid (z = 0) := Lib.hid (by have := HBD.out; omega)
      clear hz
      go_wp2
      go_ret
      exact ⟨ri HV.out.symm, hD.below⟩
end Bk
end Go.Proofs.YtipjmaimjchckaaGreatDoor

/-! THE WALKS of layer 13's and 15's reference: All, year, Check. -/
set_option linter.unusedSimpArgs false
set_option linter.unusedVariables false
set_option maxRecDepth 100000
namespace Go.Proofs.YtipjmaimjchckaaGreatDoor
open Go.RowKit Go.Lib
namespace Bk
open Un (ba bt ri rb ret2_ii ret2_bi)

set_option maxHeartbeats 1000000 in
theorem rAll_any (a b c n : Int) (w : World) (a0 : 0 ≤ a) (b0 : 0 ≤ b) (c0 : 0 ≤ c) (n0 : 1 ≤ n) (n1 : n ≤ 3) :
    Calls Tryz.prog 87 #[.agg #[.int .u8 a, .int .u8 b, .int .u8 c], .int .i64 n] w fun r w' => r = .returned (.int .i64 (marksE a b c n)) ∧ Below w.heap.size w w' := by
  obtain ⟨R, hR⟩ : ∃ R, R = marksE a b c n := ⟨_, rfl⟩
  rw [← hR]
  have HR : Hid ((a ≤ 3 ∧ b ≤ 3 ∧ c ≤ 3 ∧ (n < 3 → c = 0) ∧ (n < 2 → b = 0) → R = 0) ∧ (¬ (a ≤ 3 ∧ b ≤ 3 ∧ c ≤ 3 ∧ (n < 3 → c = 0) ∧ (n < 2 → b = 0)) → R = 9)) := Lib.hid (by
    rw [hR]; unfold marksE; exact ⟨fun h => if_pos h, fun h => if_neg h⟩)
  clear hR
  rcases (show n = 1 ∨ n = 2 ∨ n = 3 by omega) with rfl | rfl | rfl
  all_goals
    clear n0 n1
    go_enter Tryz.func87, Tryz.ntmps87
    go_wp2
    refine wp_loop_rounds 4 ?_
    rw [rounds_succ]
    go_wp2
    all_goals try rw [rounds_succ]
    all_goals try go_wp2
    all_goals try rw [rounds_succ]
    all_goals try go_wp2
    all_goals try rw [rounds_succ]
    all_goals try go_wp2
    all_goals go_ret
    all_goals refine ⟨ri ?_, ba (Below.refl _ _) _⟩
    all_goals have hR := HR.out
    all_goals omega

set_option maxHeartbeats 4000000 in
theorem rYear_any (d : Dt) (w : World) (hy : d.dg.size ≤ 1000) (s0 : -9223372036854775808 ≤ d.sig) (s1 : d.sig < 9223372036854775808) :
    Calls Tryz.prog 85 #[dtv d] w fun r w' => r = .returned (.int .i64 (if d.yearOk then 1 else 0)) ∧ Below w.heap.size w w' := by
  have hD := Dm.new d w 52
  have hC := fun w => rYCheck_any d.neg d.long d.dg d.ex d.sig w hy s0 s1
  have HS := Lib.hid (fun w => rSeason_any d w)
  have hM := fun w => rMasked_any d.neg d.long d.dg d.ex d.sig w (by unfold maxLen; omega)
  obtain ⟨R, hR⟩ : ∃ R : Int, R = if d.yearOk then 1 else 0 := ⟨_, rfl⟩
  rw [← hR]
  unfold Dt.yearOk Dt.far at hR
  unfold yv at hC
  change ∀ w, Calls _ _ _ w fun r w' => r = .returned (.int .i64 (if d.yok then 1 else 0)) ∧ _ at hC
  change ∀ w, Calls _ _ _ w fun r w' => r = .returned (.int .i64 (if d.mask then 1 else 0)) ∧ _ at hM
  unfold dtv at HS
  unfold dtv
  cases hk : d.yok
  · rw [hk] at hC hR
    have hR0 : R = 0 := by rw [hR]; simp
    subst hR0
    have HC := Lib.hid hC
    clear hC hR HS hM
    go_enter Tryz.func85, Tryz.ntmps85
    go_upto_region 1 with (fail)
    generalize w.alloc (.cells #[.bool d.neg, .bool d.long, .string d.dg, .int .i64 d.ex, .int .i64 d.sig, .string d.mo, .string d.da, .int .u8 d.m0, .int .u8 d.m1, .int .u8 d.m2] 52) = W0 at hD ⊢
    obtain ⟨q0, q1, q2, q3, q4, q5, q6, q7, q8, q9, qB⟩ := id hD
    go_wp2_with (go_at_call 94; with_reducible refine (HC.out _).mono ?_; rintro _ w' ⟨rfl, hb⟩; replace hD := hD.later hb; clear hb; obtain ⟨q0, q1, q2, q3, q4, q5, q6, q7, q8, q9, qB⟩ := id hD)
    go_ret
    exact ⟨rfl, hD.below⟩
  · rw [hk] at hC hR
    have HC := Lib.hid hC
    have hmg : d.mask = false → ∀ w, Calls Tryz.prog 89 #[.string d.dg, .int .i64 d.ex] w fun r w' => r = .returned (.tuple #[.int .i64 d.mag, .int .i64 1]) ∧ w = w' := by
      intro hm w
      obtain ⟨e, he, hle, hd, hl⟩ : ∃ e : Nat, d.ex = e ∧ e ≤ 16 ∧ allB isDig d.dg = true ∧ d.mag ≤ 10000000000000000 := by
        have hk' : yOk d.neg d.long d.dg d.ex d.sig = true := hk
        cases hl : d.long
        · rw [hl] at hk'
          obtain ⟨a1, a2, a3, a4, a5, a6, a7⟩ := yOk_short hk'
          have hd := (dig_iff a2).1 hm
          refine ⟨0, a3, by omega, hd, ?_⟩
          unfold Dt.mag magV; rw [a3]
          have := decS_lt4 hd a1
          have e : p10 (Int.toNat 0) = 1 := rfl
          rw [e]; omega
        · rw [hl] at hk'
          obtain ⟨a1, a2, a3, a4, a5, a6, a7, a8, a9⟩ := yOk_long hk'
          exact ⟨d.ex.toNat, by omega, by omega, a3, a7⟩
      have := magnitude_any d.dg e w hy (by omega) hd
      rw [he]
      have e2 : magR (magV d.dg e) = (d.mag, 1) := by
        unfold magR; rw [show magV d.dg e = d.mag by unfold Dt.mag; rw [he], if_pos hl]
      rw [e2] at this
      exact this
    clear hC hk
    have hf : (0 < d.sig → d.mo.size ≠ 0 → R = 0) ∧ ((d.sig ≤ 0 ∨ d.mo.size = 0) → (d.season ≠ 24 ∧ d.season ≠ 28 ∧ d.season ≠ 30 → R = 1) ∧ (d.mask = true → R = 1) ∧ (d.neg = true → R = 1) ∧ (d.mag ≠ 10000000000000000 → R = 1) ∧ (d.season = 24 ∨ d.season = 28 ∨ d.season = 30 → d.mask = false → d.mag = 10000000000000000 → d.neg = false → R = 0)) := by
      refine ⟨fun h1 h2 => by rw [hR, decide_eq_true h1, decide_eq_false h2]; rfl, fun h => ?_⟩
      have e1 : (decide (0 < d.sig) && !decide (d.mo.size = 0)) = false := by
        rcases h with h | h
        · rw [decide_eq_false (by omega)]; rfl
        · rw [decide_eq_true h]; simp
      rw [e1] at hR
      refine ⟨fun h => ?_, fun h => ?_, fun h => ?_, fun h => ?_, fun h h2 h3 h4 => ?_⟩
      · rw [hR, decide_eq_false h.1, decide_eq_false h.2.1, decide_eq_false h.2.2]; rfl
      · rw [hR, h]; simp
      · rw [hR, h]; simp
      · rw [hR, decide_eq_false h]; simp
      · have : (decide (d.season = 24) || (decide (d.season = 28) || decide (d.season = 30))) = true := by
          rcases h with h | h | h <;> simp [h]
        rw [hR, this, h2, decide_eq_true h3, h4]; rfl
    clear hR
    have HR := Lib.hid hf
    clear hf
    generalize d.season = z at *
    generalize hmk : d.mask = mk at *
    generalize d.mag = mg at *
    clear hmk
    cases mk
    · have HM := Lib.hid hM
      have HG := Lib.hid (hmg rfl)
      clear hM hmg
      rcases emp_cases d.mo with ⟨e0, m0⟩ | ⟨e0, m0⟩
      all_goals
        as_aux_lemma =>
          go_enter Tryz.func85, Tryz.ntmps85
          go_upto_region 1 with (fail)
          generalize World.alloc _ _ = W0 at hD ⊢
          obtain ⟨q0, q1, q2, q3, q4, q5, q6, q7, q8, q9, qB⟩ := id hD
          go_wp2_with (first
            | (go_at_call 94; with_reducible refine (HC.out _).mono ?_; rintro _ w' ⟨rfl, hb⟩; replace hD := hD.later hb; clear hb; obtain ⟨q0, q1, q2, q3, q4, q5, q6, q7, q8, q9, qB⟩ := id hD)
            | (go_at_call 65; with_reducible refine (HS.out _).mono ?_; rintro _ w' ⟨rfl, hb⟩; replace hD := hD.later hb; clear hb; obtain ⟨q0, q1, q2, q3, q4, q5, q6, q7, q8, q9, qB⟩ := id hD)
            | (go_at_call 88; with_reducible refine (HM.out _).mono ?_; rintro _ w' ⟨rfl, hb⟩; replace hD := hD.later hb; clear hb; obtain ⟨q0, q1, q2, q3, q4, q5, q6, q7, q8, q9, qB⟩ := id hD)
            | (go_at_call 89; with_reducible refine (HG.out _).mono ?_; rintro _ w' ⟨rfl, rfl⟩))
          all_goals go_ret
          all_goals refine ⟨ri ?_, hD.below⟩
          all_goals have hR := HR.out
          all_goals simp only [forall_const, reduceCtorEq, false_implies, implies_true, true_implies, and_true, true_and, false_and, false_or, ne_eq] at hR
          all_goals try simp only [beq_iff_eq] at *
          all_goals first | omega | (rcases Bool.eq_false_or_eq_true d.neg with hn | hn <;> simp only [hn, forall_const, reduceCtorEq, false_implies, implies_true, true_implies, and_true, true_and, false_and, false_or, ne_eq, Bool.not_true, Bool.not_false] at * <;> omega)
    · have HM := Lib.hid hM
      clear hM hmg
      rcases emp_cases d.mo with ⟨e0, m0⟩ | ⟨e0, m0⟩
      all_goals
        as_aux_lemma =>
          go_enter Tryz.func85, Tryz.ntmps85
          go_upto_region 1 with (fail)
          generalize World.alloc _ _ = W0 at hD ⊢
          obtain ⟨q0, q1, q2, q3, q4, q5, q6, q7, q8, q9, qB⟩ := id hD
          go_wp2_with (first
            | (go_at_call 94; with_reducible refine (HC.out _).mono ?_; rintro _ w' ⟨rfl, hb⟩; replace hD := hD.later hb; clear hb; obtain ⟨q0, q1, q2, q3, q4, q5, q6, q7, q8, q9, qB⟩ := id hD)
            | (go_at_call 65; with_reducible refine (HS.out _).mono ?_; rintro _ w' ⟨rfl, hb⟩; replace hD := hD.later hb; clear hb; obtain ⟨q0, q1, q2, q3, q4, q5, q6, q7, q8, q9, qB⟩ := id hD)
            | (go_at_call 88; with_reducible refine (HM.out _).mono ?_; rintro _ w' ⟨rfl, hb⟩; replace hD := hD.later hb; clear hb; obtain ⟨q0, q1, q2, q3, q4, q5, q6, q7, q8, q9, qB⟩ := id hD))
          all_goals go_ret
          all_goals refine ⟨ri ?_, hD.below⟩
          all_goals have hR := HR.out
          all_goals simp only [forall_const, reduceCtorEq, false_implies, implies_true, true_implies, and_true, true_and, false_and, false_or, ne_eq] at hR
          all_goals try simp only [beq_iff_eq] at *
          all_goals omega

set_option maxHeartbeats 4000000 in
theorem rDCheck_any (d : Dt) (w : World) (hy : d.dg.size ≤ 1000) (s0 : -9223372036854775808 ≤ d.sig) (s1 : d.sig < 9223372036854775808) (m0 : 0 ≤ d.m0) (m1 : 0 ≤ d.m1) (m2 : 0 ≤ d.m2) :
    Calls Tryz.prog 56 #[dtv d] w fun r w' => r = .returned (.int .i64 d.form) ∧ Below w.heap.size w w' := by
  have hD := Dm.new d w 52
  have hY := fun w => rYear_any d w hy s0 s1
  have HS := Lib.hid (fun w => rSeason_any d w)
  have HC := Lib.hid (fun w => rComps_any d w)
  have hA := fun w => rAll_any d.m0 d.m1 d.m2 (comps d.mo d.da) w m0 m1 m2 (comps_bd _ _).1 (comps_bd _ _).2
  have h12 : ∀ w, Calls Tryz.prog 86 #[.string d.mo, .int .i64 12] w fun r w' => r = .returned (.int .i64 (if someA d.mo 12 then 1 else 0)) ∧ Below w.heap.size w w' := fun w => rSome_any d.mo 12 w (by omega)
  have h31 : ∀ w, Calls Tryz.prog 86 #[.string d.da, .int .i64 31] w fun r w' => r = .returned (.int .i64 (if someA d.da 31 then 1 else 0)) ∧ Below w.heap.size w w' := fun w => rSome_any d.da 31 w (by omega)
  obtain ⟨R, hR⟩ : ∃ R : Int, R = d.form := ⟨_, rfl⟩
  rw [← hR]
  unfold Dt.form at hR
  have hz : d.season = 0 ∨ (21 ≤ d.season ∧ d.season ≤ 41) := seasonC_bd d.mo
  unfold dtv at hY HS HC
  unfold dtv
  cases hk : d.yearOk
  · rw [hk] at hY hR
    have hR0 : R = 6 := by rw [hR]; rfl
    clear hR
    subst hR0
    have HY := Lib.hid hY
    clear hY HS HC hA h12 h31
    go_enter Tryz.func56, Tryz.ntmps56
    go_upto_region 1 with (fail)
    generalize World.alloc _ _ = W0 at hD ⊢
    obtain ⟨q0, q1, q2, q3, q4, q5, q6, q7, q8, q9, qB⟩ := id hD
    go_wp2_with (go_at_call 85; with_reducible refine (HY.out _).mono ?_; rintro _ w' ⟨rfl, hb⟩; replace hD := hD.later (by first | exact hb | exact bt (Below.refl _ _).drew hb | exact bt (Below.refl _ _).drew.drew hb); clear hb; obtain ⟨q0, q1, q2, q3, q4, q5, q6, q7, q8, q9, qB⟩ := id hD)
    go_ret
    exact ⟨rfl, hD.below⟩
  · rw [hk] at hY hR
    have HY := Lib.hid hY
    clear hY hk
    generalize comps d.mo d.da = cs at *
    generalize marksE d.m0 d.m1 d.m2 cs = M at *
    obtain ⟨v12, hv12⟩ : ∃ v : Int, v = if someA d.mo 12 then 1 else 0 := ⟨_, rfl⟩
    obtain ⟨v31, hv31⟩ : ∃ v : Int, v = if someA d.da 31 then 1 else 0 := ⟨_, rfl⟩
    rw [← hv12] at h12
    rw [← hv31] at h31
    generalize d.season = z at *
    have hf : (d.mo.size ≠ 0 → z = 0 → v12 = 0 → R = 7) ∧ ((d.mo.size = 0 ∨ z ≠ 0 ∨ v12 ≠ 0) → (d.da.size ≠ 0 → (d.mo.size = 0 ∨ z ≠ 0 ∨ v31 = 0) → R = 8) ∧ ((d.da.size = 0 ∨ (d.mo.size ≠ 0 ∧ z = 0 ∧ v31 ≠ 0)) → R = M)) := by
      rw [hv12, hv31, hR]
      clear hR hv12 hv31 h12 h31
      generalize someA d.mo 12 = b12
      generalize someA d.da 31 = b31
      by_cases c0 : d.mo.size = 0 <;> by_cases c1 : d.da.size = 0 <;> by_cases c2 : z = 0 <;> cases b12 <;> cases b31 <;> simp [c0, c1, c2]
    clear hR hv12 hv31
    have HR := Lib.hid hf
    have HA := Lib.hid hA
    have H12 := Lib.hid h12
    have H31 := Lib.hid h31
    clear hf hA h12 h31
    rcases emp_cases d.mo with ⟨e0, x0⟩ | ⟨e0, x0⟩ <;> rcases emp_cases d.da with ⟨e1, x1⟩ | ⟨e1, x1⟩
    all_goals
      as_aux_lemma =>
        go_enter Tryz.func56, Tryz.ntmps56
        go_upto_region 1 with (fail)
        generalize World.alloc _ _ = W0 at hD ⊢
        obtain ⟨q0, q1, q2, q3, q4, q5, q6, q7, q8, q9, qB⟩ := id hD
        go_wp2_with (first
          | (go_at_call 85; with_reducible refine (HY.out _).mono ?_; rintro _ w' ⟨rfl, hb⟩; replace hD := hD.later (by first | exact hb | exact bt (Below.refl _ _).drew hb | exact bt (Below.refl _ _).drew.drew hb); clear hb; obtain ⟨q0, q1, q2, q3, q4, q5, q6, q7, q8, q9, qB⟩ := id hD)
          | (go_at_call 65; with_reducible refine (HS.out _).mono ?_; rintro _ w' ⟨rfl, hb⟩; replace hD := hD.later (by first | exact hb | exact bt (Below.refl _ _).drew hb | exact bt (Below.refl _ _).drew.drew hb); clear hb; obtain ⟨q0, q1, q2, q3, q4, q5, q6, q7, q8, q9, qB⟩ := id hD)
          | (go_at_call 86; first
              | (with_reducible refine (H12.out _).mono ?_; rintro _ w' ⟨rfl, hb⟩; replace hD := hD.later hb; clear hb; obtain ⟨q0, q1, q2, q3, q4, q5, q6, q7, q8, q9, qB⟩ := id hD)
              | (with_reducible refine (H31.out _).mono ?_; rintro _ w' ⟨rfl, hb⟩; replace hD := hD.later hb; clear hb; obtain ⟨q0, q1, q2, q3, q4, q5, q6, q7, q8, q9, qB⟩ := id hD)))
        all_goals first
          | (go_ret; refine ⟨ri ?_, hD.below⟩; have hR := HR.out; (try simp only [beq_iff_eq, bne_iff_ne, beq_eq_false_iff_ne, decide_eq_true_eq, decide_eq_false_iff_not, Bool.not_eq_true, Bool.and_eq_true, Bool.or_eq_true, ne_eq] at *); omega)
          | (clear HY HS H12 H31
             go_region_with (first
               | (go_at_call 67; with_reducible refine (HC.out _).mono ?_; rintro _ w' ⟨rfl, hb⟩; replace hD := hD.later (by first | exact hb | exact bt (Below.refl _ _).drew hb | exact bt (Below.refl _ _).drew.drew hb); clear hb; obtain ⟨q0, q1, q2, q3, q4, q5, q6, q7, q8, q9, qB⟩ := id hD)
               | (go_at_call 87; with_reducible refine (HA.out _).mono ?_; rintro _ w' ⟨rfl, hb⟩; replace hD := hD.later (by first | exact hb | exact bt (Below.refl _ _).drew hb | exact bt (Below.refl _ _).drew.drew hb); clear hb; obtain ⟨q0, q1, q2, q3, q4, q5, q6, q7, q8, q9, qB⟩ := id hD))
             all_goals (go_wp2_with fail)
             all_goals go_ret
             all_goals (refine ⟨ri ?_, hD.below⟩; have hR := HR.out; (try simp only [beq_iff_eq, bne_iff_ne, beq_eq_false_iff_ne, decide_eq_true_eq, decide_eq_false_iff_not, Bool.not_eq_true, Bool.and_eq_true, Bool.or_eq_true, ne_eq] at *); omega))
end Bk
end Go.Proofs.YtipjmaimjchckaaGreatDoor

