/- THE WALKS of dates as they are written (package dateforms): agrees, Components, Season. -/
import Derived.Test.YtipjmaimjchckaaGreatDoorNC
import Derived.Test.YtipjmaimjchckaaGreatDoorNB
import Derived.WalkMore
import Derived.Deep.MidRow
import Derived.Deep.DeepCutAuto
import Derived.Deep.QuietTactic
import Derived.BigQuiet
import Derived.Test.YtipjmaimjchckaaGreatDoorNA
/-! THE WALKS of dates as they are written (package dateforms): agrees, Components, Season. -/
set_option linter.unusedSimpArgs false
set_option linter.unusedVariables false
set_option maxRecDepth 100000
namespace Go.Proofs.YtipjmaimjchckaaGreatDoor
open Go.RowKit Go.Lib
namespace Bk
open Un (ba bt ri rb ret2_ii ret2_bi)

/-- A date's value. -/
def dtv (d : Dt) : Value := .agg #[.bool d.neg, .bool d.long, .string d.dg, .int .i64 d.ex, .int .i64 d.sig, .string d.mo, .string d.da, .int .u8 d.m0, .int .u8 d.m1, .int .u8 d.m2]
/-- A block holds a date. -/
structure Dm (p : Nat) (d : Dt) (w W : World) : Prop where
  c0 : W.cell? ⟨p, 0, none⟩ = some (.bool d.neg)
  c1 : W.cell? ⟨p, 1, none⟩ = some (.bool d.long)
  c2 : W.cell? ⟨p, 2, none⟩ = some (.string d.dg)
  c3 : W.cell? ⟨p, 3, none⟩ = some (.int .i64 d.ex)
  c4 : W.cell? ⟨p, 4, none⟩ = some (.int .i64 d.sig)
  c5 : W.cell? ⟨p, 5, none⟩ = some (.string d.mo)
  c6 : W.cell? ⟨p, 6, none⟩ = some (.string d.da)
  c7 : W.cell? ⟨p, 7, none⟩ = some (.int .u8 d.m0)
  c8 : W.cell? ⟨p, 8, none⟩ = some (.int .u8 d.m1)
  c9 : W.cell? ⟨p, 9, none⟩ = some (.int .u8 d.m2)
  below : Below w.heap.size w W
theorem Dm.later {p : Nat} {d : Dt} {w W W2 : World} (h : Dm p d w W) (hb : Below W.heap.size W W2) : Dm p d w W2 :=
  have g : ∀ {p : Addr} {v : Value}, W.cell? p = some v → W2.cell? p = some v := fun {p v} hc => (hb.cell (World.block_lt_of_cell? _ _ hc)).trans hc
  ⟨g h.c0, g h.c1, g h.c2, g h.c3, g h.c4, g h.c5, g h.c6, g h.c7, g h.c8, g h.c9, bt h.below hb⟩
theorem Dm.new (d : Dt) (w : World) (t : TypeId) : Dm w.heap.size d w (w.alloc (.cells #[.bool d.neg, .bool d.long, .string d.dg, .int .i64 d.ex, .int .i64 d.sig, .string d.mo, .string d.da, .int .u8 d.m0, .int .u8 d.m1, .int .u8 d.m2] t)) := by
  refine ⟨?_, ?_, ?_, ?_, ?_, ?_, ?_, ?_, ?_, ?_, ba (Below.refl _ _) _⟩ <;> simp [go_sem]

theorem agrB_size {s : ByteArray} (h : ¬ s.size = 2) (n : Int) : agrB s n = false := by unfold agrB; rw [decide_eq_false h, Bool.false_and]
theorem someA_size {s : ByteArray} (h : ¬ s.size = 2) (g : Nat) : someA s g = false := by
  unfold someA; rw [List.any_eq_false]; intro i _; rw [agrB_size h]; decide
theorem agrB_at {s : ByteArray} (h : s.size = 2) (n : Int) : agrB s n = ((decide (((s[0]'(by omega)).toNat : Int) = 88) || decide (((s[0]'(by omega)).toNat : Int) = 48 + n / 10)) && (decide (((s[1]'(by omega)).toNat : Int) = 88) || decide (((s[1]'(by omega)).toNat : Int) = 48 + n % 10))) := by
  unfold agrB; rw [decide_eq_true h, Bool.true_and, byt_get s 0 (by omega), byt_get s 1 (by omega)]

theorem agr_cases {x0 x1 : Int} {q r : Int} {a0 a1 b0 b1 : Bool} (h0 : (x0 == 88) = a0) (h1 : (x0 == 48 + q) = a1) (h2 : (x1 == 88) = b0) (h3 : (x1 == 48 + r) = b1) :
    ((decide (x0 = 88) || decide (x0 = 48 + q)) && (decide (x1 = 88) || decide (x1 = 48 + r))) = ((a0 || a1) && (b0 || b1)) := by
  subst h0 h1 h2 h3; rfl

set_option maxHeartbeats 2000000 in
theorem agrees_any (s : ByteArray) (g : Nat) (w : World) (hg : g ≤ 99) :
    Calls Tryz.prog 110 #[.string s, .int .i64 g] w fun r w' => r = .returned (.bool (someA s g)) ∧ Below w.heap.size w w' := by
  by_cases c : s.size = 2
  case neg =>
    rw [someA_size c]
    go_enter Tryz.func110, Tryz.ntmps110
    go_wp2
    go_ret
    exact ⟨rfl, Below.refl _ _⟩
  have HA := Lib.hid (agrB_at c)
  have HM := Lib.hid (fun (k : Nat) (h : k < g) (ht : agrB s ((k : Int) + 1) = true) => (someA_mono (s := s) (g := k + 1) (h := g) (by omega) (by rw [someA_succ, ht, Bool.or_true]) : someA s g = true))
  have HN := Lib.hid (fun (k : Nat) (h : someA s k = false) (ht : agrB s ((k : Int) + 1) = false) => (by rw [someA_succ, h, ht]; rfl : someA s (k + 1) = false))
  have l0 : 0 < s.size := by omega
  have l1 : 1 < s.size := by omega
  go_enter Tryz.func110, Tryz.ntmps110
  go_wp2
  go_loopw [5] (fun i wr => ∃ k : Nat, k ≤ g ∧ i = .int .i64 ((k : Int) + 1) ∧ someA s k = false ∧ Below w.heap.size w wr) (fun i _ => g + 1 - (intOf i).toNat)
  case atStart => exact ⟨0, Nat.zero_le _, rfl, rfl, Below.refl _ _⟩
  case round =>
    obtain ⟨k, hk, rfl, hz, hb⟩ := hrel
    by_cases hlt : k < g
    · have hA := HA.out ((k : Int) + 1)
      obtain ⟨a0, g0⟩ : ∃ b, (((s[0]'l0).toNat : Int) == 88) = b := ⟨_, rfl⟩
      obtain ⟨a1, g1⟩ : ∃ b, (((s[0]'l0).toNat : Int) == 48 + ((k : Int) + 1) / 10) = b := ⟨_, rfl⟩
      obtain ⟨b0, g2⟩ : ∃ b, (((s[1]'l1).toNat : Int) == 88) = b := ⟨_, rfl⟩
      obtain ⟨b1, g3⟩ : ∃ b, (((s[1]'l1).toNat : Int) == 48 + ((k : Int) + 1) % 10) = b := ⟨_, rfl⟩
      rw [agr_cases g0 g1 g2 g3] at hA
      have HB := Lib.hid hb
      have HZ := Lib.hid hz
      have HA2 := Lib.hid hA
      clear hb hz hA
      have q0 : 0 ≤ ((k : Int) + 1) / 10 := by omega
      have q1 : ((k : Int) + 1) / 10 ≤ 9 := by omega
      have r0 : 0 ≤ ((k : Int) + 1) % 10 := by omega
      have r1 : ((k : Int) + 1) % 10 ≤ 9 := by omega
      have HBt := Lib.hid (fun W (h : Below wr.heap.size wr W) => bt HB.out h)
      cases a0 <;> cases a1 <;> cases b0 <;> cases b1
      all_goals
        as_aux_lemma =>
          go_wp2
          go_quiet (fail)
          go_wp2
          first
          | (go_ret
             exact ⟨rb (HM.out k hlt HA2.out).symm, HBt.out _ (below_drewN (ba (Below.refl _ _) _) _)⟩)
          | (go_roundw
             case rel => exact ⟨k + 1, by omega, by go_num, HN.out k HZ.out HA2.out, HBt.out _ (below_drewN (ba (Below.refl _ _) _) _)⟩
             case measure => simp [intOf]; omega)
    · obtain rfl : k = g := by omega
      have HB := Lib.hid hb
      have HZ := Lib.hid hz
      clear hb hz
      go_wp2
      go_ret
      exact ⟨rb HZ.out.symm, HB.out⟩

theorem comps_any (d : Dt) (w : World) :
    Calls Tryz.prog 112 #[dtv d] w fun r w' => r = .returned (.int .i64 (comps d.mo d.da)) ∧ Below w.heap.size w w' := by
  have i0 : ∀ w, (Instr.index 161 (.agg #[.string d.mo, .string d.da]) (.int .i64 0)).run Tryz.prog w = .ok (.string d.mo) w := fun _ => by kernel_rfl
  have i1 : ∀ w, (Instr.index 161 (.agg #[.string d.mo, .string d.da]) (.int .i64 1)).run Tryz.prog w = .ok (.string d.da) w := fun _ => by kernel_rfl
  have hD := Dm.new d w 52
  obtain ⟨R, hR⟩ : ∃ R, R = comps d.mo d.da := ⟨_, rfl⟩
  rw [← hR]
  unfold comps at hR
  unfold dtv
  rcases emp_cases d.mo with ⟨e0, m0⟩ | ⟨e0, m0⟩ <;> rcases emp_cases d.da with ⟨e1, m1⟩ | ⟨e1, m1⟩
  all_goals
    first | rw [if_pos e0] at hR | rw [if_neg e0] at hR
    first | rw [if_pos e1] at hR | rw [if_neg e1] at hR
    replace hR := Lib.hid hR
    clear e0 e1
    go_enter Tryz.func112, Tryz.ntmps112
    go_upto_region 1 with (fail)
    generalize w.alloc (.cells #[.bool d.neg, .bool d.long, .string d.dg, .int .i64 d.ex, .int .i64 d.sig, .string d.mo, .string d.da, .int .u8 d.m0, .int .u8 d.m1, .int .u8 d.m2] 52) = W0 at hD ⊢
    obtain ⟨q0, q1, q2, q3, q4, q5, q6, q7, q8, q9, qB⟩ := id hD
    go_wp2
    refine wp_loop_rounds 3 ?_
    rw [rounds_succ]
    go_wp2
    rw [rounds_succ]
    go_wp2
    rw [rounds_succ]
    go_wp2
    go_ret
    exact ⟨ri (by rw [hR.out]; rfl), hD.below⟩

/-- What Season returns. -/
theorem season_any (d : Dt) (w : World) (hk : WOk w) (hs : d.mo.size ≤ 1000) :
    Calls Tryz.prog 108 #[dtv d] w fun r w' => r = .returned (.tuple #[.int .i64 d.season, .bool (!decide (d.season = 0))]) ∧ Below w.heap.size w w' := by
  have hD := Dm.new d w 52
  have HE : (∃ v, atoiAll d.mo.data.toList = .ok v) ∨ ∀ v, atoiAll d.mo.data.toList ≠ .ok v := by
    cases h : atoiAll d.mo.data.toList
    · exact .inl ⟨_, rfl⟩
    · exact .inr (fun v e => by cases e)
    · exact .inr (fun v e => by cases e)
  unfold Dt.season dtv
  rcases HE with ⟨v, hv⟩ | hv
  · have HA := Lib.hid (fun W => atoi_ok d.mo v hv hs W)
    by_cases c : d.mo.size = 2
    · rw [atoi_season c hv]
      have HC := fun W => seasCheck_any v W
      clear hv
      by_cases cv : 21 ≤ v ∧ v ≤ 41
      · rw [if_pos cv] at HC ⊢
        have ev : decide (v = 0) = false := decide_eq_false (by omega)
        rw [ev]
        replace HC := Lib.hid HC
        clear cv ev
        go_enter Tryz.func108, Tryz.ntmps108
        go_upto_region 1 with (fail)
        generalize w.alloc (.cells #[.bool d.neg, .bool d.long, .string d.dg, .int .i64 d.ex, .int .i64 d.sig, .string d.mo, .string d.da, .int .u8 d.m0, .int .u8 d.m1, .int .u8 d.m2] 52) = W0 at hD ⊢
        obtain ⟨q0, q1, q2, q3, q4, q5, q6, q7, q8, q9, qB⟩ := id hD
        go_wp2_with fail
        refine (HA.out _).mono ?_; rintro _ w1 ⟨rfl, hb⟩
        replace hD := hD.later hb; clear hb; obtain ⟨q0, q1, q2, q3, q4, q5, q6, q7, q8, q9, qB⟩ := id hD
        go_wp2_with (go_at_call 135; with_reducible refine (HC.out _).mono ?_; rintro _ w' ⟨rfl, rfl⟩)
        go_ret2
        exact ⟨rfl, hD.below⟩
      · rw [if_neg cv] at HC ⊢
        replace HC := Lib.hid HC
        clear cv
        go_enter Tryz.func108, Tryz.ntmps108
        go_upto_region 1 with (fail)
        generalize w.alloc (.cells #[.bool d.neg, .bool d.long, .string d.dg, .int .i64 d.ex, .int .i64 d.sig, .string d.mo, .string d.da, .int .u8 d.m0, .int .u8 d.m1, .int .u8 d.m2] 52) = W0 at hD ⊢
        obtain ⟨q0, q1, q2, q3, q4, q5, q6, q7, q8, q9, qB⟩ := id hD
        go_wp2_with fail
        refine (HA.out _).mono ?_; rintro _ w1 ⟨rfl, hb⟩
        replace hD := hD.later hb; clear hb; obtain ⟨q0, q1, q2, q3, q4, q5, q6, q7, q8, q9, qB⟩ := id hD
        go_wp2_with (go_at_call 135; with_reducible refine (HC.out _).mono ?_; rintro _ w' ⟨rfl, rfl⟩)
        go_ret2
        exact ⟨rfl, hD.below⟩
    · rw [season_size c]
      clear hv
      have c2 : ((d.mo.size : Int) != 2) = true := by rw [bne_iff_ne]; omega
      clear c
      go_enter Tryz.func108, Tryz.ntmps108
      go_upto_region 1 with (fail)
      generalize w.alloc (.cells #[.bool d.neg, .bool d.long, .string d.dg, .int .i64 d.ex, .int .i64 d.sig, .string d.mo, .string d.da, .int .u8 d.m0, .int .u8 d.m1, .int .u8 d.m2] 52) = W0 at hD ⊢
      obtain ⟨q0, q1, q2, q3, q4, q5, q6, q7, q8, q9, qB⟩ := id hD
      go_wp2_with fail
      refine (HA.out _).mono ?_; rintro _ w1 ⟨rfl, hb⟩
      replace hD := hD.later hb; clear hb; obtain ⟨q0, q1, q2, q3, q4, q5, q6, q7, q8, q9, qB⟩ := id hD
      go_wp2_with fail
      go_ret2
      exact ⟨rfl, hD.below⟩
  · have HA := Lib.hid (fun W hb => atoi_bad d.mo hv hs W (hk.below (w' := W) hb))
    rw [atoi_none hv]
    clear hv
    go_enter Tryz.func108, Tryz.ntmps108
    go_upto_region 1 with (fail)
    generalize w.alloc (.cells #[.bool d.neg, .bool d.long, .string d.dg, .int .i64 d.ex, .int .i64 d.sig, .string d.mo, .string d.da, .int .u8 d.m0, .int .u8 d.m1, .int .u8 d.m2] 52) = W0 at hD ⊢
    obtain ⟨q0, q1, q2, q3, q4, q5, q6, q7, q8, q9, qB⟩ := id hD
    go_wp2_with fail
    refine (HA.out _ hD.below).mono ?_; rintro _ w1 ⟨⟨x, t, p, rfl⟩, hb⟩
    replace hD := hD.later hb; clear hb; obtain ⟨q0, q1, q2, q3, q4, q5, q6, q7, q8, q9, qB⟩ := id hD
    go_wp2_with fail
    go_ret2
    exact ⟨rfl, hD.below⟩

end Bk
end Go.Proofs.YtipjmaimjchckaaGreatDoor

/-! THE WALKS of dates as they are written: checkYear. -/
set_option linter.unusedSimpArgs false
set_option linter.unusedVariables false
set_option maxRecDepth 100000
namespace Go.Proofs.YtipjmaimjchckaaGreatDoor
open Go.RowKit Go.Lib
namespace Bk
open Un (ba bt ri rb ret2_ii ret2_bi)

theorem yVal_bd {neg long : Bool} {s : ByteArray} {ex sig : Int} (hk : yOk neg long s ex sig = true) (hx : hasB 88 s = false) : -10000000000000000 ≤ yVal neg s ex ∧ yVal neg s ex ≤ 10000000000000000 := by
  have h0 := magV_pos s ex
  have h1 : magV s ex ≤ 10000000000000000 := by
    cases long
    · obtain ⟨h1, h2, h3, _⟩ := yOk_short hk
      have hd := (dig_iff h2).1 hx
      have := decS_lt4 hd h1
      have hz : magV s 0 = decS s := by unfold magV p10; simp
      rw [h3, hz]; omega
    · exact (yOk_long hk).2.2.2.2.2.2.1
  unfold yVal
  split <;> omega

set_option maxHeartbeats 4000000 in
theorem checkYear_any (d : Dt) (w : World) (hk : WOk w) (hs : d.mo.size ≤ 1000) (hy : d.dg.size ≤ 1000) :
    Calls Tryz.prog 109 #[dtv d] w fun r w' => r = .returned (.bool d.yearOk) ∧ Below w.heap.size w w' := by
  have hD := Dm.new d w 52
  have hK := fun W => yCheck_any d.neg d.long d.dg d.ex d.sig W hy
  have hS := fun W hb => season_any d W (hk.below (w' := W) hb) hs
  have hM := fun W => yMasked_any d.neg d.long d.dg d.ex d.sig W
  obtain ⟨R, hR⟩ : ∃ R, R = d.yearOk := ⟨_, rfl⟩
  rw [← hR]
  unfold Dt.yearOk Dt.far Dt.yok Dt.mask Dt.mag at hR
  unfold dtv at hS
  unfold yv at hK hM
  unfold dtv
  by_cases hok : yOk d.neg d.long d.dg d.ex d.sig = true
  case neg =>
    have hok : yOk d.neg d.long d.dg d.ex d.sig = false := by simpa using hok
    rw [hok] at hK hR
    have HK := Lib.hid hK
    replace hR := Lib.hid hR
    clear hK hS hM hok
    go_enter Tryz.func109, Tryz.ntmps109
    go_upto_region 1 with (fail)
    generalize w.alloc (.cells #[.bool d.neg, .bool d.long, .string d.dg, .int .i64 d.ex, .int .i64 d.sig, .string d.mo, .string d.da, .int .u8 d.m0, .int .u8 d.m1, .int .u8 d.m2] 52) = W0 at hD ⊢
    obtain ⟨q0, q1, q2, q3, q4, q5, q6, q7, q8, q9, qB⟩ := id hD
    go_wp2_with fail
    refine (HK.out _).mono ?_; rintro _ w1 ⟨rfl, hb⟩
    replace hD := hD.later hb; clear hb; obtain ⟨q0, q1, q2, q3, q4, q5, q6, q7, q8, q9, qB⟩ := id hD
    go_wp2_with fail
    go_ret
    exact ⟨rb (by rw [hR.out]; rfl), hD.below⟩
  rw [hok, Bool.true_and] at hR
  rw [hok] at hK
  have HK := Lib.hid hK
  clear hK
  rcases emp_cases d.mo with ⟨e0, m0⟩ | ⟨e0, m0⟩
  · have e1 : d.season = 0 := season_size (by omega)
    rw [decide_eq_true e0, e1] at hR
    rw [e1] at hS
    have HS := Lib.hid hS
    replace hR := Lib.hid hR
    clear hS hM e0 e1 hok
    have hRR : R = true := by rw [hR.out]; simp
    subst hRR
    clear hR
    by_cases c : 0 < d.sig
    all_goals
      go_enter Tryz.func109, Tryz.ntmps109
      go_upto_region 1 with (fail)
      generalize w.alloc (.cells #[.bool d.neg, .bool d.long, .string d.dg, .int .i64 d.ex, .int .i64 d.sig, .string d.mo, .string d.da, .int .u8 d.m0, .int .u8 d.m1, .int .u8 d.m2] 52) = W0 at hD ⊢
      obtain ⟨q0, q1, q2, q3, q4, q5, q6, q7, q8, q9, qB⟩ := id hD
      go_wp2_with fail
      refine (HK.out _).mono ?_; rintro _ w1 ⟨rfl, hb⟩
      replace hD := hD.later hb; clear hb; obtain ⟨q0, q1, q2, q3, q4, q5, q6, q7, q8, q9, qB⟩ := id hD
      go_wp2_with fail
      refine (HS.out _ hD.below).mono ?_; rintro _ w2 ⟨rfl, hb⟩
      replace hD := hD.later hb; clear hb; obtain ⟨q0, q1, q2, q3, q4, q5, q6, q7, q8, q9, qB⟩ := id hD
      go_wp2_with fail
      go_ret
      exact ⟨rb (rfl), hD.below⟩
  · rw [decide_eq_false e0] at hR
    by_cases c : 0 < d.sig
    · rw [decide_eq_true c] at hR
      replace hR := Lib.hid hR
      clear hS hM e0 hok
      go_enter Tryz.func109, Tryz.ntmps109
      go_upto_region 1 with (fail)
      generalize w.alloc (.cells #[.bool d.neg, .bool d.long, .string d.dg, .int .i64 d.ex, .int .i64 d.sig, .string d.mo, .string d.da, .int .u8 d.m0, .int .u8 d.m1, .int .u8 d.m2] 52) = W0 at hD ⊢
      obtain ⟨q0, q1, q2, q3, q4, q5, q6, q7, q8, q9, qB⟩ := id hD
      go_wp2_with fail
      refine (HK.out _).mono ?_; rintro _ w1 ⟨rfl, hb⟩
      replace hD := hD.later hb; clear hb; obtain ⟨q0, q1, q2, q3, q4, q5, q6, q7, q8, q9, qB⟩ := id hD
      go_wp2_with fail
      go_ret
      exact ⟨rb (by rw [hR.out]; rfl), hD.below⟩
    · rw [decide_eq_false c] at hR
      rcases seasonC_bd d.mo with e1 | ⟨s0, s1⟩
      · have e1 : d.season = 0 := e1
        rw [e1] at hR hS
        have HS := Lib.hid hS
        replace hR := Lib.hid hR
        clear hS hM e0 e1 hok
        go_enter Tryz.func109, Tryz.ntmps109
        go_upto_region 1 with (fail)
        generalize w.alloc (.cells #[.bool d.neg, .bool d.long, .string d.dg, .int .i64 d.ex, .int .i64 d.sig, .string d.mo, .string d.da, .int .u8 d.m0, .int .u8 d.m1, .int .u8 d.m2] 52) = W0 at hD ⊢
        obtain ⟨q0, q1, q2, q3, q4, q5, q6, q7, q8, q9, qB⟩ := id hD
        go_wp2_with fail
        refine (HK.out _).mono ?_; rintro _ w1 ⟨rfl, hb⟩
        replace hD := hD.later hb; clear hb; obtain ⟨q0, q1, q2, q3, q4, q5, q6, q7, q8, q9, qB⟩ := id hD
        go_wp2_with fail
        refine (HS.out _ hD.below).mono ?_; rintro _ w2 ⟨rfl, hb⟩
        replace hD := hD.later hb; clear hb; obtain ⟨q0, q1, q2, q3, q4, q5, q6, q7, q8, q9, qB⟩ := id hD
        go_wp2_with fail
        go_ret
        exact ⟨rb (by rw [hR.out]; rfl), hD.below⟩
      · have s0 : 21 ≤ d.season := s0
        have s1 : d.season ≤ 41 := s1
        rw [show decide (d.season = 0) = false from decide_eq_false (by omega)] at hS
        have HS := Lib.hid hS
        clear hS
        by_cases hx : hasB 88 d.dg = true
        · rw [hx] at hM hR
          have HM := Lib.hid hM
          have hRR : R = true := by rw [hR]; simp
          subst hRR
          clear hM hR e0 hok hx
          go_enter Tryz.func109, Tryz.ntmps109
          go_upto_region 1 with (fail)
          generalize w.alloc (.cells #[.bool d.neg, .bool d.long, .string d.dg, .int .i64 d.ex, .int .i64 d.sig, .string d.mo, .string d.da, .int .u8 d.m0, .int .u8 d.m1, .int .u8 d.m2] 52) = W0 at hD ⊢
          obtain ⟨q0, q1, q2, q3, q4, q5, q6, q7, q8, q9, qB⟩ := id hD
          go_wp2_with fail
          refine (HK.out _).mono ?_; rintro _ w1 ⟨rfl, hb⟩
          replace hD := hD.later hb; clear hb; obtain ⟨q0, q1, q2, q3, q4, q5, q6, q7, q8, q9, qB⟩ := id hD
          go_wp2_with fail
          refine (HS.out _ hD.below).mono ?_; rintro _ w2 ⟨rfl, hb⟩
          replace hD := hD.later hb; clear hb; obtain ⟨q0, q1, q2, q3, q4, q5, q6, q7, q8, q9, qB⟩ := id hD
          go_wp2_with fail
          refine (HM.out _).mono ?_; rintro _ w3 ⟨rfl, hb⟩
          replace hD := hD.later hb; clear hb; obtain ⟨q0, q1, q2, q3, q4, q5, q6, q7, q8, q9, qB⟩ := id hD
          go_wp2_with fail
          go_ret
          exact ⟨rb (rfl), hD.below⟩
        · have hx : hasB 88 d.dg = false := by simpa using hx
          rw [hx] at hM hR
          have HM := Lib.hid hM
          have hV := fun W => yValue_any d.neg d.long d.dg d.ex d.sig W hy hok hx
          unfold yv at hV
          have HV := Lib.hid hV
          have hy0 : -10000000000000000 ≤ yVal d.neg d.dg d.ex ∧ yVal d.neg d.dg d.ex ≤ 10000000000000000 := yVal_bd hok hx
          have hyv : (decide (magV d.dg d.ex = 10000000000000000) && !d.neg) = decide (yVal d.neg d.dg d.ex = 10000000000000000) := by
            have := magV_pos d.dg d.ex
            unfold yVal
            cases d.neg
            · rw [Bool.not_false, Bool.and_true]; rfl
            · rw [Bool.not_true, Bool.and_false]; symm; apply decide_eq_false; simp only [if_true]; omega
          rw [hyv] at hR
          clear hM hV hyv hok hx e0
          generalize yVal d.neg d.dg d.ex = y at *
          have hfar : ((decide (d.season = 24) || (decide (d.season = 28) || decide (d.season = 30))) && decide (y = 10000000000000000)) = decide (10000000000000000 < sYear y d.season) := by
            unfold sYear sFrom sMany
            generalize d.season = c at *
            rw [Bool.eq_iff_iff]
            simp only [Bool.and_eq_true, Bool.or_eq_true, decide_eq_true_eq]
            constructor
            · rintro ⟨h | h | h, rfl⟩ <;> subst h <;> decide
            · intro h
              (repeat' split at h) <;> omega
          have hR2 : R = !decide (10000000000000000 < sYear y d.season) := by
            rw [hR, ← hfar]
            cases decide (y = 10000000000000000) <;> simp
          clear hR hfar
          by_cases cz : 10000000000000000 < sYear y d.season
          · rw [decide_eq_true cz] at hR2
            have HR := Lib.hid (fun W hb => seasRun_no y d.season W (hk.below (w' := W) hb) hy0.1 hy0.2 s0 s1 cz)
            unfold rv at HR
            replace hR2 := Lib.hid hR2
            clear cz hy0
            generalize d.season = cc at *
            go_enter Tryz.func109, Tryz.ntmps109
            go_upto_region 1 with (fail)
            generalize w.alloc (.cells #[.bool d.neg, .bool d.long, .string d.dg, .int .i64 d.ex, .int .i64 d.sig, .string d.mo, .string d.da, .int .u8 d.m0, .int .u8 d.m1, .int .u8 d.m2] 52) = W0 at hD ⊢
            obtain ⟨q0, q1, q2, q3, q4, q5, q6, q7, q8, q9, qB⟩ := id hD
            go_wp2_with fail
            refine (HK.out _).mono ?_; rintro _ w1 ⟨rfl, hb⟩
            replace hD := hD.later hb; clear hb; obtain ⟨q0, q1, q2, q3, q4, q5, q6, q7, q8, q9, qB⟩ := id hD
            go_wp2_with fail
            refine (HS.out _ hD.below).mono ?_; rintro _ w2 ⟨rfl, hb⟩
            replace hD := hD.later hb; clear hb; obtain ⟨q0, q1, q2, q3, q4, q5, q6, q7, q8, q9, qB⟩ := id hD
            go_wp2_with fail
            refine (HM.out _).mono ?_; rintro _ w3 ⟨rfl, hb⟩
            replace hD := hD.later hb; clear hb; obtain ⟨q0, q1, q2, q3, q4, q5, q6, q7, q8, q9, qB⟩ := id hD
            go_wp2_with fail
            refine (HV.out _).mono ?_; rintro _ w4 ⟨rfl, hb⟩
            replace hD := hD.later hb; clear hb; obtain ⟨q0, q1, q2, q3, q4, q5, q6, q7, q8, q9, qB⟩ := id hD
            go_wp2_with fail
            refine (HR.out _ hD.below).mono ?_; rintro _ w5 ⟨rfl, hb⟩
            replace hD := hD.later hb; clear hb; obtain ⟨q0, q1, q2, q3, q4, q5, q6, q7, q8, q9, qB⟩ := id hD
            go_wp2_with fail
            go_ret
            exact ⟨rb (by rw [hR2.out]; rfl), ba hD.below _⟩
          · rw [decide_eq_false cz] at hR2
            have HR := Lib.hid (fun W hb => seasRun_ok y d.season W (hk.below (w' := W) hb) hy0.1 hy0.2 s0 s1 (by omega))
            unfold rv at HR
            replace hR2 := Lib.hid hR2
            clear cz hy0
            generalize d.season = cc at *
            go_enter Tryz.func109, Tryz.ntmps109
            go_upto_region 1 with (fail)
            generalize w.alloc (.cells #[.bool d.neg, .bool d.long, .string d.dg, .int .i64 d.ex, .int .i64 d.sig, .string d.mo, .string d.da, .int .u8 d.m0, .int .u8 d.m1, .int .u8 d.m2] 52) = W0 at hD ⊢
            obtain ⟨q0, q1, q2, q3, q4, q5, q6, q7, q8, q9, qB⟩ := id hD
            go_wp2_with fail
            refine (HK.out _).mono ?_; rintro _ w1 ⟨rfl, hb⟩
            replace hD := hD.later hb; clear hb; obtain ⟨q0, q1, q2, q3, q4, q5, q6, q7, q8, q9, qB⟩ := id hD
            go_wp2_with fail
            refine (HS.out _ hD.below).mono ?_; rintro _ w2 ⟨rfl, hb⟩
            replace hD := hD.later hb; clear hb; obtain ⟨q0, q1, q2, q3, q4, q5, q6, q7, q8, q9, qB⟩ := id hD
            go_wp2_with fail
            refine (HM.out _).mono ?_; rintro _ w3 ⟨rfl, hb⟩
            replace hD := hD.later hb; clear hb; obtain ⟨q0, q1, q2, q3, q4, q5, q6, q7, q8, q9, qB⟩ := id hD
            go_wp2_with fail
            refine (HV.out _).mono ?_; rintro _ w4 ⟨rfl, hb⟩
            replace hD := hD.later hb; clear hb; obtain ⟨q0, q1, q2, q3, q4, q5, q6, q7, q8, q9, qB⟩ := id hD
            go_wp2_with fail
            refine (HR.out _ hD.below).mono ?_; rintro _ w5 ⟨rfl, hb⟩
            replace hD := hD.later hb; clear hb; obtain ⟨q0, q1, q2, q3, q4, q5, q6, q7, q8, q9, qB⟩ := id hD
            go_wp2_with fail
            go_ret
            exact ⟨rb (by rw [hR2.out]; rfl), ba hD.below _⟩

end Bk
end Go.Proofs.YtipjmaimjchckaaGreatDoor

/-! THE WALK of dateforms.Check. -/
set_option linter.unusedSimpArgs false
set_option linter.unusedVariables false
set_option maxRecDepth 100000
namespace Go.Proofs.YtipjmaimjchckaaGreatDoor
open Go.RowKit Go.Lib
namespace Bk
open Un (ba bt ri rb ret2_ii ret2_bi)

theorem Dm.drew' {p : Nat} {d : Dt} {w W : World} (h : Dm p d w W) : Dm p d w W.drew := h.later (Below.refl _ _).drew
theorem Dm.S {p : Nat} {d : Dt} {w w' : World} (h : Dm p d w w') : w'.cell? ⟨p, 0, none⟩ = some (.bool d.neg) ∧ w'.cell? ⟨p, 1, none⟩ = some (.bool d.long) ∧ w'.cell? ⟨p, 2, none⟩ = some (.string d.dg) ∧ w'.cell? ⟨p, 3, none⟩ = some (.int .i64 d.ex) ∧ w'.cell? ⟨p, 4, none⟩ = some (.int .i64 d.sig) ∧ w'.cell? ⟨p, 5, none⟩ = some (.string d.mo) ∧ w'.cell? ⟨p, 6, none⟩ = some (.string d.da) ∧ w'.cell? ⟨p, 7, none⟩ = some (.int .u8 d.m0) ∧ w'.cell? ⟨p, 8, none⟩ = some (.int .u8 d.m1) ∧ w'.cell? ⟨p, 9, none⟩ = some (.int .u8 d.m2) ∧ Dm p d w w' := ⟨h.c0, h.c1, h.c2, h.c3, h.c4, h.c5, h.c6, h.c7, h.c8, h.c9, h⟩

theorem comps_bd (a b : ByteArray) : 1 ≤ comps a b ∧ comps a b ≤ 3 := by unfold comps; (repeat' split) <;> omega

set_option maxHeartbeats 8000000 in
theorem dCheck_any (d : Dt) (w : World) (hk : WOk w) (hs : d.mo.size ≤ 1000) (hy : d.dg.size ≤ 1000) (m0 : 0 ≤ d.m0) (m1 : 0 ≤ d.m1) (m2 : 0 ≤ d.m2) :
    Calls Tryz.prog 76 #[dtv d] w fun r w' => r = .returned (.int .i64 d.form) ∧ Below w.heap.size w w' := by
  have hD := Dm.new d w 52
  have hS := fun W hb => season_any d W (hk.below (w' := W) hb) hs
  have hY := fun W hb => checkYear_any d W (hk.below (w' := W) hb) hs hy
  have hA := fun W => agrees_any d.mo 12 W (by omega)
  have hB := fun W => agrees_any d.da 31 W (by omega)
  have hC := fun W => comps_any d W
  have hM := fun W => marksAll_any d.m0 d.m1 d.m2 (comps d.mo d.da) W m0 m1 m2 (comps_bd _ _).1 (comps_bd _ _).2
  obtain ⟨R, hR⟩ : ∃ R, R = d.form := ⟨_, rfl⟩
  rw [← hR]
  unfold Dt.form at hR
  unfold dtv at hS hY hC
  unfold dtv
  generalize d.yearOk = yo at *
  generalize someA d.mo 12 = a12 at *
  generalize someA d.da 31 = a31 at *
  generalize marksE d.m0 d.m1 d.m2 (comps d.mo d.da) = mk at *
  generalize comps d.mo d.da = n at *
  rw [← emp_dec, ← emp_dec] at hR
  generalize d.season = sc at *
  obtain ⟨z, hz⟩ : ∃ z, z = decide (sc = 0) := ⟨_, rfl⟩
  rw [← hz] at hR hS
  clear hz
  obtain ⟨me, hme⟩ : ∃ z, d.mo.toList.isEmpty = z := ⟨_, rfl⟩
  obtain ⟨de, hde⟩ : ∃ z, d.da.toList.isEmpty = z := ⟨_, rfl⟩
  rw [hme, hde] at hR
  have HC := Lib.hid hC
  have HM := Lib.hid hM
  clear hC hM
  cases yo
  · as_aux_lemma =>
      have HS := Lib.hid hS; have HY := Lib.hid hY; have HA := Lib.hid hA; have HB := Lib.hid hB
      clear hS hY hA hB
      replace hR := Lib.hid hR
      clear hme hde
      go_enter Tryz.func76, Tryz.ntmps76
      go_upto_region 1 with (fail)
      generalize w.alloc (.cells #[.bool d.neg, .bool d.long, .string d.dg, .int .i64 d.ex, .int .i64 d.sig, .string d.mo, .string d.da, .int .u8 d.m0, .int .u8 d.m1, .int .u8 d.m2] 52) = W0 at hD ⊢
      obtain ⟨q0, q1, q2, q3, q4, q5, q6, q7, q8, q9, qB⟩ := id hD
      go_wp2_with fail
      refine (HS.out _ hD.below).mono ?_; rintro _ w2 ⟨rfl, hb⟩
      replace hD := hD.later hb; clear hb; obtain ⟨q0, q1, q2, q3, q4, q5, q6, q7, q8, q9, qB⟩ := id hD
      go_wp2_with fail
      refine (HY.out _ hD.below).mono ?_; rintro _ w3 ⟨rfl, hb⟩
      replace hD := hD.later hb; clear hb; obtain ⟨q0, q1, q2, q3, q4, q5, q6, q7, q8, q9, qB⟩ := id hD
      go_wp2_with fail
      go_ret
      exact ⟨ri (by rw [hR.out]; rfl), hD.below⟩
  cases me
  · cases z
    · cases de
      · as_aux_lemma =>
          have HS := Lib.hid hS; have HY := Lib.hid hY; have HA := Lib.hid hA; have HB := Lib.hid hB
          clear hS hY hA hB
          replace hR := Lib.hid hR
          go_enter Tryz.func76, Tryz.ntmps76
          go_upto_region 1 with (fail)
          generalize w.alloc (.cells #[.bool d.neg, .bool d.long, .string d.dg, .int .i64 d.ex, .int .i64 d.sig, .string d.mo, .string d.da, .int .u8 d.m0, .int .u8 d.m1, .int .u8 d.m2] 52) = W0 at hD ⊢
          obtain ⟨q0, q1, q2, q3, q4, q5, q6, q7, q8, q9, qB⟩ := id hD
          go_wp2_with fail
          refine (HS.out _ hD.below).mono ?_; rintro _ w2 ⟨rfl, hb⟩
          replace hD := hD.later hb; clear hb; obtain ⟨q0, q1, q2, q3, q4, q5, q6, q7, q8, q9, qB⟩ := id hD
          go_wp2_with fail
          refine (HY.out _ hD.below).mono ?_; rintro _ w3 ⟨rfl, hb⟩
          replace hD := hD.later hb; clear hb; obtain ⟨q0, q1, q2, q3, q4, q5, q6, q7, q8, q9, qB⟩ := id hD
          go_wp2_with fail
          go_ret
          exact ⟨ri (by rw [hR.out]; rfl), hD.below⟩
      · as_aux_lemma =>
          have HS := Lib.hid hS; have HY := Lib.hid hY; have HA := Lib.hid hA; have HB := Lib.hid hB
          clear hS hY hA hB
          replace hR := Lib.hid hR
          go_enter Tryz.func76, Tryz.ntmps76
          go_upto_region 1 with (fail)
          generalize w.alloc (.cells #[.bool d.neg, .bool d.long, .string d.dg, .int .i64 d.ex, .int .i64 d.sig, .string d.mo, .string d.da, .int .u8 d.m0, .int .u8 d.m1, .int .u8 d.m2] 52) = W0 at hD ⊢
          obtain ⟨q0, q1, q2, q3, q4, q5, q6, q7, q8, q9, qB⟩ := id hD
          go_wp2_with fail
          refine (HS.out _ hD.below).mono ?_; rintro _ w2 ⟨rfl, hb⟩
          replace hD := hD.later hb; clear hb; obtain ⟨q0, q1, q2, q3, q4, q5, q6, q7, q8, q9, qB⟩ := id hD
          go_wp2_with fail
          refine (HY.out _ hD.below).mono ?_; rintro _ w3 ⟨rfl, hb⟩
          replace hD := hD.later hb; clear hb; obtain ⟨q0, q1, q2, q3, q4, q5, q6, q7, q8, q9, qB⟩ := id hD
          have hE := Lib.hid hD.drew'
          go_wp2_with fail
          go_region_held3 (fun w' => w'.cell? ⟨w.heap.size, 0, none⟩ = some (.bool d.neg) ∧ w'.cell? ⟨w.heap.size, 1, none⟩ = some (.bool d.long) ∧ w'.cell? ⟨w.heap.size, 2, none⟩ = some (.string d.dg) ∧ w'.cell? ⟨w.heap.size, 3, none⟩ = some (.int .i64 d.ex) ∧ w'.cell? ⟨w.heap.size, 4, none⟩ = some (.int .i64 d.sig) ∧ w'.cell? ⟨w.heap.size, 5, none⟩ = some (.string d.mo) ∧ w'.cell? ⟨w.heap.size, 6, none⟩ = some (.string d.da) ∧ w'.cell? ⟨w.heap.size, 7, none⟩ = some (.int .u8 d.m0) ∧ w'.cell? ⟨w.heap.size, 8, none⟩ = some (.int .u8 d.m1) ∧ w'.cell? ⟨w.heap.size, 9, none⟩ = some (.int .u8 d.m2) ∧ Dm w.heap.size d w w') (first | exact hE.out.S | exact (hE.out.later hb2).S | (have hk := ‹_ ∧ _ ∧ _ ∧ _ ∧ _ ∧ _ ∧ _ ∧ _ ∧ _ ∧ _ ∧ Dm _ _ _ _›; exact (hk.2.2.2.2.2.2.2.2.2.2.later hb2).S) | (have hk := ‹_ ∧ _ ∧ _ ∧ _ ∧ _ ∧ _ ∧ _ ∧ _ ∧ _ ∧ _ ∧ Dm _ _ _ _›; exact hk.2.2.2.2.2.2.2.2.2.2.drew'.S) | assumption) ((first | (go_at_call 112; with_reducible refine (HC.out _).mono ?_; rintro _ w6 ⟨rfl, hb2⟩) | (go_at_call 111; with_reducible refine (HM.out _).mono ?_; rintro _ w7 ⟨rfl, hb2⟩)))
          rename_i hk
          have hF := Lib.hid hk.2.2.2.2.2.2.2.2.2.2
          clear hk
          go_wp2_with fail
          go_ret
          exact ⟨ri (by rw [hR.out]; rfl), hF.out.below⟩
    · cases a12
      · as_aux_lemma =>
          have HS := Lib.hid hS; have HY := Lib.hid hY; have HA := Lib.hid hA; have HB := Lib.hid hB
          clear hS hY hA hB
          replace hR := Lib.hid hR
          go_enter Tryz.func76, Tryz.ntmps76
          go_upto_region 1 with (fail)
          generalize w.alloc (.cells #[.bool d.neg, .bool d.long, .string d.dg, .int .i64 d.ex, .int .i64 d.sig, .string d.mo, .string d.da, .int .u8 d.m0, .int .u8 d.m1, .int .u8 d.m2] 52) = W0 at hD ⊢
          obtain ⟨q0, q1, q2, q3, q4, q5, q6, q7, q8, q9, qB⟩ := id hD
          go_wp2_with fail
          refine (HS.out _ hD.below).mono ?_; rintro _ w2 ⟨rfl, hb⟩
          replace hD := hD.later hb; clear hb; obtain ⟨q0, q1, q2, q3, q4, q5, q6, q7, q8, q9, qB⟩ := id hD
          go_wp2_with fail
          refine (HY.out _ hD.below).mono ?_; rintro _ w3 ⟨rfl, hb⟩
          replace hD := hD.later hb; clear hb; obtain ⟨q0, q1, q2, q3, q4, q5, q6, q7, q8, q9, qB⟩ := id hD
          go_wp2_with fail
          refine (HA.out _).mono ?_; rintro _ w4 ⟨rfl, hb⟩
          replace hD := hD.later hb; clear hb; obtain ⟨q0, q1, q2, q3, q4, q5, q6, q7, q8, q9, qB⟩ := id hD
          go_wp2_with fail
          go_ret
          exact ⟨ri (by rw [hR.out]; rfl), hD.below⟩
      · cases de
        · cases a31
          · as_aux_lemma =>
              have HS := Lib.hid hS; have HY := Lib.hid hY; have HA := Lib.hid hA; have HB := Lib.hid hB
              clear hS hY hA hB
              replace hR := Lib.hid hR
              go_enter Tryz.func76, Tryz.ntmps76
              go_upto_region 1 with (fail)
              generalize w.alloc (.cells #[.bool d.neg, .bool d.long, .string d.dg, .int .i64 d.ex, .int .i64 d.sig, .string d.mo, .string d.da, .int .u8 d.m0, .int .u8 d.m1, .int .u8 d.m2] 52) = W0 at hD ⊢
              obtain ⟨q0, q1, q2, q3, q4, q5, q6, q7, q8, q9, qB⟩ := id hD
              go_wp2_with fail
              refine (HS.out _ hD.below).mono ?_; rintro _ w2 ⟨rfl, hb⟩
              replace hD := hD.later hb; clear hb; obtain ⟨q0, q1, q2, q3, q4, q5, q6, q7, q8, q9, qB⟩ := id hD
              go_wp2_with fail
              refine (HY.out _ hD.below).mono ?_; rintro _ w3 ⟨rfl, hb⟩
              replace hD := hD.later hb; clear hb; obtain ⟨q0, q1, q2, q3, q4, q5, q6, q7, q8, q9, qB⟩ := id hD
              go_wp2_with fail
              refine (HA.out _).mono ?_; rintro _ w4 ⟨rfl, hb⟩
              replace hD := hD.later hb; clear hb; obtain ⟨q0, q1, q2, q3, q4, q5, q6, q7, q8, q9, qB⟩ := id hD
              go_wp2_with fail
              refine (HB.out _).mono ?_; rintro _ w5 ⟨rfl, hb⟩
              replace hD := hD.later hb; clear hb; obtain ⟨q0, q1, q2, q3, q4, q5, q6, q7, q8, q9, qB⟩ := id hD
              go_wp2_with fail
              go_ret
              exact ⟨ri (by rw [hR.out]; rfl), hD.below⟩
          · as_aux_lemma =>
              have HS := Lib.hid hS; have HY := Lib.hid hY; have HA := Lib.hid hA; have HB := Lib.hid hB
              clear hS hY hA hB
              replace hR := Lib.hid hR
              go_enter Tryz.func76, Tryz.ntmps76
              go_upto_region 1 with (fail)
              generalize w.alloc (.cells #[.bool d.neg, .bool d.long, .string d.dg, .int .i64 d.ex, .int .i64 d.sig, .string d.mo, .string d.da, .int .u8 d.m0, .int .u8 d.m1, .int .u8 d.m2] 52) = W0 at hD ⊢
              obtain ⟨q0, q1, q2, q3, q4, q5, q6, q7, q8, q9, qB⟩ := id hD
              go_wp2_with fail
              refine (HS.out _ hD.below).mono ?_; rintro _ w2 ⟨rfl, hb⟩
              replace hD := hD.later hb; clear hb; obtain ⟨q0, q1, q2, q3, q4, q5, q6, q7, q8, q9, qB⟩ := id hD
              go_wp2_with fail
              refine (HY.out _ hD.below).mono ?_; rintro _ w3 ⟨rfl, hb⟩
              replace hD := hD.later hb; clear hb; obtain ⟨q0, q1, q2, q3, q4, q5, q6, q7, q8, q9, qB⟩ := id hD
              go_wp2_with fail
              refine (HA.out _).mono ?_; rintro _ w4 ⟨rfl, hb⟩
              replace hD := hD.later hb; clear hb; obtain ⟨q0, q1, q2, q3, q4, q5, q6, q7, q8, q9, qB⟩ := id hD
              go_wp2_with fail
              refine (HB.out _).mono ?_; rintro _ w5 ⟨rfl, hb⟩
              replace hD := hD.later hb; clear hb; obtain ⟨q0, q1, q2, q3, q4, q5, q6, q7, q8, q9, qB⟩ := id hD
              have hE := Lib.hid hD.drew'
              go_wp2_with fail
              go_region_held3 (fun w' => w'.cell? ⟨w.heap.size, 0, none⟩ = some (.bool d.neg) ∧ w'.cell? ⟨w.heap.size, 1, none⟩ = some (.bool d.long) ∧ w'.cell? ⟨w.heap.size, 2, none⟩ = some (.string d.dg) ∧ w'.cell? ⟨w.heap.size, 3, none⟩ = some (.int .i64 d.ex) ∧ w'.cell? ⟨w.heap.size, 4, none⟩ = some (.int .i64 d.sig) ∧ w'.cell? ⟨w.heap.size, 5, none⟩ = some (.string d.mo) ∧ w'.cell? ⟨w.heap.size, 6, none⟩ = some (.string d.da) ∧ w'.cell? ⟨w.heap.size, 7, none⟩ = some (.int .u8 d.m0) ∧ w'.cell? ⟨w.heap.size, 8, none⟩ = some (.int .u8 d.m1) ∧ w'.cell? ⟨w.heap.size, 9, none⟩ = some (.int .u8 d.m2) ∧ Dm w.heap.size d w w') (first | exact hE.out.S | exact (hE.out.later hb2).S | (have hk := ‹_ ∧ _ ∧ _ ∧ _ ∧ _ ∧ _ ∧ _ ∧ _ ∧ _ ∧ _ ∧ Dm _ _ _ _›; exact (hk.2.2.2.2.2.2.2.2.2.2.later hb2).S) | (have hk := ‹_ ∧ _ ∧ _ ∧ _ ∧ _ ∧ _ ∧ _ ∧ _ ∧ _ ∧ _ ∧ Dm _ _ _ _›; exact hk.2.2.2.2.2.2.2.2.2.2.drew'.S) | assumption) ((first | (go_at_call 112; with_reducible refine (HC.out _).mono ?_; rintro _ w6 ⟨rfl, hb2⟩) | (go_at_call 111; with_reducible refine (HM.out _).mono ?_; rintro _ w7 ⟨rfl, hb2⟩)))
              rename_i hk
              have hF := Lib.hid hk.2.2.2.2.2.2.2.2.2.2
              clear hk
              go_wp2_with fail
              go_ret
              exact ⟨ri (by rw [hR.out]; rfl), hF.out.below⟩
        · as_aux_lemma =>
            have HS := Lib.hid hS; have HY := Lib.hid hY; have HA := Lib.hid hA; have HB := Lib.hid hB
            clear hS hY hA hB
            replace hR := Lib.hid hR
            go_enter Tryz.func76, Tryz.ntmps76
            go_upto_region 1 with (fail)
            generalize w.alloc (.cells #[.bool d.neg, .bool d.long, .string d.dg, .int .i64 d.ex, .int .i64 d.sig, .string d.mo, .string d.da, .int .u8 d.m0, .int .u8 d.m1, .int .u8 d.m2] 52) = W0 at hD ⊢
            obtain ⟨q0, q1, q2, q3, q4, q5, q6, q7, q8, q9, qB⟩ := id hD
            go_wp2_with fail
            refine (HS.out _ hD.below).mono ?_; rintro _ w2 ⟨rfl, hb⟩
            replace hD := hD.later hb; clear hb; obtain ⟨q0, q1, q2, q3, q4, q5, q6, q7, q8, q9, qB⟩ := id hD
            go_wp2_with fail
            refine (HY.out _ hD.below).mono ?_; rintro _ w3 ⟨rfl, hb⟩
            replace hD := hD.later hb; clear hb; obtain ⟨q0, q1, q2, q3, q4, q5, q6, q7, q8, q9, qB⟩ := id hD
            go_wp2_with fail
            refine (HA.out _).mono ?_; rintro _ w4 ⟨rfl, hb⟩
            replace hD := hD.later hb; clear hb; obtain ⟨q0, q1, q2, q3, q4, q5, q6, q7, q8, q9, qB⟩ := id hD
            have hE := Lib.hid hD.drew'
            go_wp2_with fail
            go_region_held3 (fun w' => w'.cell? ⟨w.heap.size, 0, none⟩ = some (.bool d.neg) ∧ w'.cell? ⟨w.heap.size, 1, none⟩ = some (.bool d.long) ∧ w'.cell? ⟨w.heap.size, 2, none⟩ = some (.string d.dg) ∧ w'.cell? ⟨w.heap.size, 3, none⟩ = some (.int .i64 d.ex) ∧ w'.cell? ⟨w.heap.size, 4, none⟩ = some (.int .i64 d.sig) ∧ w'.cell? ⟨w.heap.size, 5, none⟩ = some (.string d.mo) ∧ w'.cell? ⟨w.heap.size, 6, none⟩ = some (.string d.da) ∧ w'.cell? ⟨w.heap.size, 7, none⟩ = some (.int .u8 d.m0) ∧ w'.cell? ⟨w.heap.size, 8, none⟩ = some (.int .u8 d.m1) ∧ w'.cell? ⟨w.heap.size, 9, none⟩ = some (.int .u8 d.m2) ∧ Dm w.heap.size d w w') (first | exact hE.out.S | exact (hE.out.later hb2).S | (have hk := ‹_ ∧ _ ∧ _ ∧ _ ∧ _ ∧ _ ∧ _ ∧ _ ∧ _ ∧ _ ∧ Dm _ _ _ _›; exact (hk.2.2.2.2.2.2.2.2.2.2.later hb2).S) | (have hk := ‹_ ∧ _ ∧ _ ∧ _ ∧ _ ∧ _ ∧ _ ∧ _ ∧ _ ∧ _ ∧ Dm _ _ _ _›; exact hk.2.2.2.2.2.2.2.2.2.2.drew'.S) | assumption) ((first | (go_at_call 112; with_reducible refine (HC.out _).mono ?_; rintro _ w6 ⟨rfl, hb2⟩) | (go_at_call 111; with_reducible refine (HM.out _).mono ?_; rintro _ w7 ⟨rfl, hb2⟩)))
            rename_i hk
            have hF := Lib.hid hk.2.2.2.2.2.2.2.2.2.2
            clear hk
            go_wp2_with fail
            go_ret
            exact ⟨ri (by rw [hR.out]; rfl), hF.out.below⟩
  · cases de
    · as_aux_lemma =>
        have HS := Lib.hid hS; have HY := Lib.hid hY; have HA := Lib.hid hA; have HB := Lib.hid hB
        clear hS hY hA hB
        replace hR := Lib.hid hR
        go_enter Tryz.func76, Tryz.ntmps76
        go_upto_region 1 with (fail)
        generalize w.alloc (.cells #[.bool d.neg, .bool d.long, .string d.dg, .int .i64 d.ex, .int .i64 d.sig, .string d.mo, .string d.da, .int .u8 d.m0, .int .u8 d.m1, .int .u8 d.m2] 52) = W0 at hD ⊢
        obtain ⟨q0, q1, q2, q3, q4, q5, q6, q7, q8, q9, qB⟩ := id hD
        go_wp2_with fail
        refine (HS.out _ hD.below).mono ?_; rintro _ w2 ⟨rfl, hb⟩
        replace hD := hD.later hb; clear hb; obtain ⟨q0, q1, q2, q3, q4, q5, q6, q7, q8, q9, qB⟩ := id hD
        go_wp2_with fail
        refine (HY.out _ hD.below).mono ?_; rintro _ w3 ⟨rfl, hb⟩
        replace hD := hD.later hb; clear hb; obtain ⟨q0, q1, q2, q3, q4, q5, q6, q7, q8, q9, qB⟩ := id hD
        go_wp2_with fail
        go_ret
        exact ⟨ri (by rw [hR.out]; rfl), hD.below⟩
    · as_aux_lemma =>
        have HS := Lib.hid hS; have HY := Lib.hid hY; have HA := Lib.hid hA; have HB := Lib.hid hB
        clear hS hY hA hB
        replace hR := Lib.hid hR
        go_enter Tryz.func76, Tryz.ntmps76
        go_upto_region 1 with (fail)
        generalize w.alloc (.cells #[.bool d.neg, .bool d.long, .string d.dg, .int .i64 d.ex, .int .i64 d.sig, .string d.mo, .string d.da, .int .u8 d.m0, .int .u8 d.m1, .int .u8 d.m2] 52) = W0 at hD ⊢
        obtain ⟨q0, q1, q2, q3, q4, q5, q6, q7, q8, q9, qB⟩ := id hD
        go_wp2_with fail
        refine (HS.out _ hD.below).mono ?_; rintro _ w2 ⟨rfl, hb⟩
        replace hD := hD.later hb; clear hb; obtain ⟨q0, q1, q2, q3, q4, q5, q6, q7, q8, q9, qB⟩ := id hD
        go_wp2_with fail
        refine (HY.out _ hD.below).mono ?_; rintro _ w3 ⟨rfl, hb⟩
        replace hD := hD.later hb; clear hb; obtain ⟨q0, q1, q2, q3, q4, q5, q6, q7, q8, q9, qB⟩ := id hD
        have hE := Lib.hid hD.drew'
        go_wp2_with fail
        go_region_held3 (fun w' => w'.cell? ⟨w.heap.size, 0, none⟩ = some (.bool d.neg) ∧ w'.cell? ⟨w.heap.size, 1, none⟩ = some (.bool d.long) ∧ w'.cell? ⟨w.heap.size, 2, none⟩ = some (.string d.dg) ∧ w'.cell? ⟨w.heap.size, 3, none⟩ = some (.int .i64 d.ex) ∧ w'.cell? ⟨w.heap.size, 4, none⟩ = some (.int .i64 d.sig) ∧ w'.cell? ⟨w.heap.size, 5, none⟩ = some (.string d.mo) ∧ w'.cell? ⟨w.heap.size, 6, none⟩ = some (.string d.da) ∧ w'.cell? ⟨w.heap.size, 7, none⟩ = some (.int .u8 d.m0) ∧ w'.cell? ⟨w.heap.size, 8, none⟩ = some (.int .u8 d.m1) ∧ w'.cell? ⟨w.heap.size, 9, none⟩ = some (.int .u8 d.m2) ∧ Dm w.heap.size d w w') (first | exact hE.out.S | exact (hE.out.later hb2).S | (have hk := ‹_ ∧ _ ∧ _ ∧ _ ∧ _ ∧ _ ∧ _ ∧ _ ∧ _ ∧ _ ∧ Dm _ _ _ _›; exact (hk.2.2.2.2.2.2.2.2.2.2.later hb2).S) | (have hk := ‹_ ∧ _ ∧ _ ∧ _ ∧ _ ∧ _ ∧ _ ∧ _ ∧ _ ∧ _ ∧ Dm _ _ _ _›; exact hk.2.2.2.2.2.2.2.2.2.2.drew'.S) | assumption) ((first | (go_at_call 112; with_reducible refine (HC.out _).mono ?_; rintro _ w6 ⟨rfl, hb2⟩) | (go_at_call 111; with_reducible refine (HM.out _).mono ?_; rintro _ w7 ⟨rfl, hb2⟩)))
        rename_i hk
        have hF := Lib.hid hk.2.2.2.2.2.2.2.2.2.2
        clear hk
        go_wp2_with fail
        go_ret
        exact ⟨ri (by rw [hR.out]; rfl), hF.out.below⟩
end Bk
end Go.Proofs.YtipjmaimjchckaaGreatDoor

