/- THE WALKS of numbers: units.number, masked; circaref23 Number, Masked, Value. -/
import Derived.Test.YtipjmaimjchckaaGreatDoorNE
import Derived.Test.YtipjmaimjchckaaGreatDoorNL
import Derived.Test.YtipjmaimjchckaaGreatDoorND
import Derived.Test.YtipjmaimjchckaaGreatDoorNF
import Derived.Test.YtipjmaimjchckaaGreatDoorNI
import Derived.Test.YtipjmaimjchckaaGreatDoorNK
/-! THE WALKS of numbers: units.number, masked; circaref23 Number, Masked, Value. -/
set_option linter.unusedSimpArgs false
set_option linter.unusedVariables false
set_option maxRecDepth 100000
namespace Go.Proofs.YtipjmaimjchckaaGreatDoor
open Go.RowKit Go.Lib
namespace Bk
open Un (ba bt ri rb ret2_ii ret2_bi)

theorem magP_bd {s : ByteArray} (hd : allB isDig s = true) (hs : s.size ≤ 17) (k : Nat) (hk : k ≤ s.size) : 0 ≤ magP s k ∧ magP s k < 100000000000000000 := by
  have h1 := magP_pos s k
  have h2 := magP_mono hd k (s.size - k)
  rw [show k + (s.size - k) = s.size + 0 by omega, magP_all] at h2
  have h3 := decS_lt hd hs
  have : magV s (0 : Nat) = decS s := by unfold magV; rw [show ((0 : Nat) : Int).toNat = 0 from rfl]; unfold p10; simp
  omega
theorem magP_end (s : ByteArray) : magP s s.size = decS s := by
  have := magP_all s 0
  rw [Nat.add_zero] at this
  rw [this]
  unfold magV; rw [show ((0 : Nat) : Int).toNat = 0 from rfl]; unfold p10; simp

set_option maxHeartbeats 1000000 in
theorem uNumber_any (s : ByteArray) (w : World) (hs : s.size ≤ 2) (hd : allB isDig s = true) :
    Calls Tryz.prog 53 #[.string s] w fun r w' => r = .returned (.int .i64 (decS s)) ∧ Below w.heap.size w w' := by
  obtain ⟨cap, W1, hcv, hC, hB⟩ := conv_bytes w s
  have HC := Lib.hid hC
  have HD := Lib.hid hd
  have HP := Lib.hid (fun k hk => magP_bd hd (by omega) k hk)
  clear hd hC
  go_enter Tryz.func53, Tryz.ntmps53
  go_wp2
  clear hcv
  go_loop [3, 9] (fun n i => ∃ k : Nat, k ≤ s.size ∧ i = .int .i64 k ∧ n = .int .i64 (magP s k)) (fun _ i => s.size - (intOf i).toNat)
  case atStart => exact ⟨0, Nat.zero_le _, rfl, by rw [magP_zero]⟩
  case round =>
    obtain ⟨k, hk, rfl, rfl⟩ := hrel
    have p0 := HP.out k hk
    by_cases hlt : k < s.size
    · have hc := HC.out k hlt
      have hd := dig_at HD.out k hlt
      have HS := Lib.hid (magP_dig HD.out k hlt)
      have p1 := HP.out (k + 1) (by omega)
      rw [HS.out] at p1
      obtain ⟨d0, d1⟩ := hd
      go_wp2
      go_round
      case rel => exact ⟨k + 1, by omega, by go_num, by rw [HS.out]⟩
      case measure => simp [intOf]; omega
    · obtain rfl : k = s.size := by omega
      go_wp2
      go_ret
      exact ⟨ri (magP_end s), hB⟩

set_option maxHeartbeats 1000000 in
theorem rNumber_any (s : ByteArray) (w : World) (hs : s.size ≤ 2) (hd : allB isDig s = true) :
    Calls Tryz.prog 59 #[.string s] w fun r w' => r = .returned (.int .i64 (decS s)) ∧ w = w' := by
  have HD := Lib.hid hd
  have HP := Lib.hid (fun k hk => magP_bd hd (by omega) k hk)
  clear hd
  go_enter Tryz.func59, Tryz.ntmps59
  go_wp2
  go_loop [3, 4] (fun n i => ∃ k : Nat, k ≤ s.size ∧ i = .int .i64 k ∧ n = .int .i64 (magP s k)) (fun _ i => s.size - (intOf i).toNat)
  case atStart => exact ⟨0, Nat.zero_le _, rfl, by rw [magP_zero]⟩
  case round =>
    obtain ⟨k, hk, rfl, rfl⟩ := hrel
    have p0 := HP.out k hk
    by_cases hlt : k < s.size
    · have hd := dig_at HD.out k hlt
      have HS := Lib.hid (magP_dig HD.out k hlt)
      have p1 := HP.out (k + 1) (by omega)
      rw [HS.out] at p1
      obtain ⟨d0, d1⟩ := hd
      go_wp2
      go_round
      case rel => exact ⟨k + 1, by omega, by go_num, by rw [HS.out]; first | rfl | (congr 1; omega)⟩
      case measure => simp [intOf]; omega
    · obtain rfl : k = s.size := by omega
      go_wp2
      go_ret
      exact ⟨ri (magP_end s), rfl⟩

theorem hasB_append (c : Int) (a b : ByteArray) : hasB c (a ++ b) = (hasB c a || hasB c b) := by
  unfold hasB
  rw [ByteArray.data_append, Array.toList_append, List.any_append]
/-- A date has X, or tells how many digits count. -/
def Dt.msk (d : Dt) : Bool := hasB 88 (d.dg ++ d.mo ++ d.da) || decide (0 < d.sig)

theorem uMasked_any (d : Dt) (w : World) (hs : d.mo.size ≤ 1000) (hy : d.dg.size ≤ 1000) (ha : d.da.size ≤ 1000) :
    Calls Tryz.prog 50 #[dtv d] w fun r w' => r = .returned (.bool d.msk) ∧ Below w.heap.size w w' := by
  have hD := Dm.new d w 52
  have HC : ∀ W, Calls Tryz.prog 54 #[.string (d.dg ++ d.mo ++ d.da), .string ⟨#[88]⟩] W fun e w' => e = .returned (.bool (hasB 88 (d.dg ++ d.mo ++ d.da))) ∧ w' = W := by
    intro W
    have := Tryz.strings_Contains_one (d.dg ++ d.mo ++ d.da) 88 W
    rw [indexByte_has] at this
    exact this
  unfold Dt.msk dtv
  generalize hasB 88 (d.dg ++ d.mo ++ d.da) = b at *
  have e1 : (d.dg ++ d.mo).size = d.dg.size + d.mo.size := by simp
  have e2 : (d.dg ++ d.mo ++ d.da).size = d.dg.size + d.mo.size + d.da.size := by simp
  replace HC := Lib.hid HC
  by_cases c : 0 < d.sig
  all_goals cases b
  all_goals
    go_enter Tryz.func50, Tryz.ntmps50
    go_upto_region 1 with (fail)
    generalize World.alloc _ _ = W0 at hD ⊢
    obtain ⟨q0, q1, q2, q3, q4, q5, q6, q7, q8, q9, qB⟩ := id hD
    go_wp2_with (go_at_call 54; with_reducible refine (HC.out _).mono ?_; rintro _ w' ⟨rfl, rfl⟩)
    go_ret
    exact ⟨rb (by simp [c]), hD.below⟩

set_option maxHeartbeats 1000000 in
theorem rMaskedD_any (d : Dt) (w : World) (hs : d.mo.size ≤ 1000) (hy : d.dg.size ≤ 1000) (ha : d.da.size ≤ 1000) :
    Calls Tryz.prog 31 #[dtv d] w fun r w' => r = .returned (.int .i64 (if d.msk then 1 else 0)) ∧ Below w.heap.size w w' := by
  have hD := Dm.new d w 52
  obtain ⟨R, hR⟩ : ∃ R : Int, R = if d.msk then 1 else 0 := ⟨_, rfl⟩
  rw [← hR]
  have HR : Hid ((∀ k (h : k < (d.dg ++ d.mo ++ d.da).size), ((((d.dg ++ d.mo ++ d.da)[k]'h).toNat : Int)) = 88 → R = 1) ∧ (0 < d.sig → R = 1) ∧ ((∀ k, k < (d.dg ++ d.mo ++ d.da).size → byt (d.dg ++ d.mo ++ d.da) k ≠ 88) → d.sig ≤ 0 → R = 0)) := Lib.hid (by
    rw [hR]; unfold Dt.msk
    generalize d.dg ++ d.mo ++ d.da = s
    refine ⟨fun k h e => ?_, fun h => ?_, fun h h2 => ?_⟩
    · rw [(hasB_iff 88 s).2 ⟨k, h, by rw [byt_get s k h]; exact e⟩]; rfl
    · rw [decide_eq_true h]; simp
    · have : hasB 88 s = false := by
        rw [Bool.eq_false_iff]; intro c
        obtain ⟨i, hi, he⟩ := (hasB_iff 88 s).1 c
        exact h i hi he
      rw [this, decide_eq_false (by omega)]; rfl)
  clear hR
  unfold dtv
  have e1 : (d.dg ++ d.mo).size = d.dg.size + d.mo.size := by simp
  have e2 : (d.dg ++ d.mo ++ d.da).size = d.dg.size + d.mo.size + d.da.size := by simp
  go_enter Tryz.func31, Tryz.ntmps31
  go_upto_region 1 with (fail)
  generalize World.alloc _ _ = W0 at hD ⊢
  obtain ⟨q0, q1, q2, q3, q4, q5, q6, q7, q8, q9, qB⟩ := id hD
  go_wp2
  generalize d.dg ++ d.mo ++ d.da = s at *
  go_loop [4] (fun i => ∃ k : Nat, k ≤ s.size ∧ i = .int .i64 k ∧ ∀ j, j < k → byt s j ≠ 88) (fun i => s.size - (intOf i).toNat)
  case atStart => exact ⟨0, Nat.zero_le _, rfl, fun j h => by omega⟩
  case round =>
    obtain ⟨k, hk, rfl, hn⟩ := hrel
    have HN := Lib.hid hn
    clear hn
    by_cases hlt : k < s.size
    · by_cases c : ((s[k]'hlt).toNat : Int) = 88
      · have hv := HR.out.1 k hlt c
        go_wp2
        go_ret
        exact ⟨ri (by first | rfl | exact hv.symm), hD.below⟩
      · go_wp2
        go_round
        case rel => exact ⟨k + 1, by omega, by go_num, fun j hj => by
          by_cases e : j = k
          · subst e; rw [byt_get s j hlt]; exact c
          · exact HN.out j (by omega)⟩
        case measure => simp [intOf]; omega
    · obtain rfl : k = s.size := by omega
      by_cases c : 0 < d.sig
      · have hv := HR.out.2.1 c
        go_wp2
        go_ret
        exact ⟨ri (by first | rfl | exact hv.symm), hD.below⟩
      · have hv := HR.out.2.2 HN.out (by omega)
        go_wp2
        go_ret
        exact ⟨ri (by first | rfl | exact hv.symm), hD.below⟩

set_option maxHeartbeats 2000000 in
theorem rValue_any (neg long : Bool) (s : ByteArray) (e : Nat) (sig : Int) (w : World) (hs : s.size ≤ 17) (hd : allB isDig s = true) (he : e ≤ 16) (hm : magV s e ≤ 10000000000000000) :
    Calls Tryz.prog 58 #[yv neg long s e sig] w fun r w' => r = .returned (.int .i64 (yVal neg s e)) ∧ Below w.heap.size w w' := by
  have hY := Ym.new neg long s e sig w 49
  have HD := Lib.hid hd
  have HP := Lib.hid (fun k hk => magP_bd hd (by omega) k hk)
  have HM : Hid (∀ k, k ≤ s.size + e → 0 ≤ magP s k ∧ magP s k ≤ 10000000000000000) := Lib.hid (fun k hk => by
    have h2 := magP_mono hd k (s.size + e - k)
    rw [show k + (s.size + e - k) = s.size + e by omega, magP_all] at h2
    exact ⟨magP_pos s k, by omega⟩)
  obtain ⟨R, hR⟩ : ∃ R : Int, R = yVal neg s e := ⟨_, rfl⟩
  rw [← hR]
  unfold yVal at hR
  rw [← magP_all] at hR
  replace hR := Lib.hid hR
  clear hd hm
  unfold yv
  go_enter Tryz.func58, Tryz.ntmps58
  go_upto_region 1 with (fail)
  generalize World.alloc _ _ = W0 at hY ⊢
  obtain ⟨q0, q1, q2, q3, q4, qB⟩ := id hY
  go_wp2
  go_loop [3, 4] (fun n i => ∃ k : Nat, k ≤ s.size ∧ i = .int .i64 k ∧ n = .int .i64 (magP s k)) (fun _ i => s.size - (intOf i).toNat)
  case atStart => exact ⟨0, Nat.zero_le _, rfl, by rw [magP_zero]⟩
  case round =>
    obtain ⟨k, hk, rfl, rfl⟩ := hrel
    have p0 := HP.out k hk
    by_cases hlt : k < s.size
    · have hd := dig_at HD.out k hlt
      have HS := Lib.hid (magP_dig HD.out k hlt)
      have p1 := HP.out (k + 1) (by omega)
      rw [HS.out] at p1
      obtain ⟨d0, d1⟩ := hd
      go_wp2
      go_round
      case rel => exact ⟨k + 1, by omega, by go_num, by rw [HS.out]; first | rfl | (congr 1; omega)⟩
      case measure => simp [intOf]; omega
    · obtain rfl : k = s.size := by omega
      go_wp2
      go_loop [3, 5] (fun n i => ∃ k : Nat, k ≤ e ∧ i = .int .i64 k ∧ n = .int .i64 (magP s (s.size + k))) (fun _ i => e - (intOf i).toNat)
      case atStart => exact ⟨0, Nat.zero_le _, rfl, rfl⟩
      case round =>
        obtain ⟨k, hk, rfl, rfl⟩ := hrel
        have p0 := HM.out (s.size + k) (by omega)
        by_cases hlt : k < e
        · have HS := Lib.hid (magP_pow s (s.size + k) (by omega))
          have p1 := HM.out (s.size + k + 1) (by omega)
          rw [HS.out] at p1
          go_wp2
          go_round
          case rel => exact ⟨k + 1, by omega, by go_num, by rw [show s.size + (k + 1) = s.size + k + 1 by omega, HS.out]⟩
          case measure => simp [intOf]; omega
        · obtain rfl : k = e := by omega
          generalize magP s (s.size + k) = v at *
          cases neg
          · go_wp2
            go_ret
            exact ⟨ri (by rw [hR.out]; rfl), hY.below⟩
          · go_wp2
            go_ret
            exact ⟨ri (by rw [hR.out]; rfl), hY.below⟩
end Bk
end Go.Proofs.YtipjmaimjchckaaGreatDoor

/-! THE WALKS of circaref23 Season and Unit. -/
set_option linter.unusedSimpArgs false
set_option linter.unusedVariables false
set_option maxRecDepth 100000
namespace Go.Proofs.YtipjmaimjchckaaGreatDoor
open Go.RowKit Go.Lib
namespace Bk
open Un (ba bt ri rb ret2_ii ret2_bi)

/-- The days of a unit. -/
def unitLo (y m k : Int) : Int := if m = 0 then Cal.st y else if 12 < m then Cal.st y + Cal.cum y (sFrom m) else if k = 0 then Cal.st y + Cal.cum y m else Cal.st y + Cal.cum y m + k - 1
def unitHi (y m k : Int) : Int := if m = 0 then Cal.st (y + 1) - 1 else if 12 < m then Cal.st (sYear y m) + Cal.cum (sYear y m) (sTo m + 1) - 1 else if k = 0 then Cal.st y + Cal.cum y (m + 1) - 1 else Cal.st y + Cal.cum y m + k - 1

def seasHi (y sf k : Int) : Int := if sf + k ≤ 13 then Cal.st y + Cal.cum y (sf + k) - 1 else Cal.st (y + 1) + Cal.cum (y + 1) (sf + k - 12) - 1
theorem seasHi_in {y sf k : Int} (h0 : 1 ≤ sf) (h1 : 0 ≤ k) (h2 : sf + k ≤ 12) : seasHi y sf (k + 1) = seasHi y sf k + Cal.len y (sf + k) := by
  unfold seasHi
  rw [if_pos (by omega), if_pos (by omega), show sf + (k + 1) = sf + k + 1 by omega, Cal.cum_succ y (sf + k) (by omega) (by omega)]; omega
theorem seasHi_out {y sf k : Int} (h0 : 1 ≤ sf) (h1 : 0 ≤ k) (h2 : 12 < sf + k) (h3 : sf + k ≤ 24) : seasHi y sf (k + 1) = seasHi y sf k + Cal.len (y + 1) (sf + k - 12) := by
  unfold seasHi
  rw [if_neg (by omega), show sf + (k + 1) - 12 = sf + k - 12 + 1 by omega, Cal.cum_succ (y + 1) (sf + k - 12) (by omega) (by omega)]
  by_cases c : sf + k = 13
  · rw [if_pos (by omega), c, show (13 : Int) - 12 = 1 from rfl, Cal.cum_last, Cal.cum_one, Cal.st_succ]; omega
  · rw [if_neg (by omega)]; omega
theorem seasHi_end (y c : Int) (h0 : 21 ≤ c) (h1 : c ≤ 41) : seasHi y (sFrom c) (sMany c) = Cal.st (sYear y c) + Cal.cum (sYear y c) (sTo c + 1) - 1 := by
  unfold seasHi sYear sTo
  by_cases h : sFrom c + sMany c - 1 ≤ 12
  · rw [if_pos (by omega), if_pos h, if_pos h, show sFrom c + sMany c - 1 + 1 = sFrom c + sMany c by omega]
  · rw [if_neg (by omega), if_neg h, if_neg h, show sFrom c + sMany c - 13 + 1 = sFrom c + sMany c - 12 by omega]
theorem seasHi_bd {y sf k : Int} (y0 : -10000000000000000 ≤ y) (y1 : y ≤ 10000000000000000) (h0 : 1 ≤ sf) (h1 : 0 ≤ k) (h2 : sf + k ≤ 24) : -9200000000000000400 ≤ seasHi y sf k ∧ seasHi y sf k ≤ 9200000000000000400 := by
  obtain ⟨b0, b1⟩ := Un.st_bd2 (y := y) (by omega) (by omega)
  obtain ⟨b2, b3⟩ := Un.st_bd2 (y := y + 1) (by omega) (by omega)
  unfold seasHi
  split
  · have := @Cal.cum_bd y (sf + k) (by omega) (by omega); omega
  · have := @Cal.cum_bd (y + 1) (sf + k - 12) (by omega) (by omega); omega

theorem sf_bd (c : Int) : 1 ≤ sFrom c ∧ sFrom c ≤ 12 ∧ 3 ≤ sMany c ∧ sMany c ≤ 6 ∧ sFrom c + sMany c ≤ 15 := by unfold sFrom sMany; (repeat' split) <;> omega

theorem info_run : (Tryz.prog.info? 26).map (·.size) = some 4 := by kernel_rfl
set_option maxHeartbeats 4000000 in
theorem rSeason23_any (y c : Int) (w : World) (y0 : -10000000000000000 ≤ y) (y1 : y ≤ 10000000000000000) (c0 : 21 ≤ c) (c1 : c ≤ 41) :
    Calls Tryz.prog 25 #[.int .i64 y, .int .i64 c] w fun r w' => r = .returned (rv (Cal.st y + Cal.cum y (sFrom c)) (Cal.st (sYear y c) + Cal.cum (sYear y c) (sTo c + 1) - 1)) ∧ Below w.heap.size w w' := by
  have hf := sf_bd c
  rw [← seasHi_end y c c0 c1]
  have HL := Lib.hid (fun y m w m0 m1 => Un.refLen_any y m w m0 m1)
  have HD : Hid (∀ w, Calls Tryz.prog 47 #[.int .i64 y, .int .i64 (sFrom c), .int .i64 1] w fun e w' => e = .returned (.int .i64 (Cal.st y + Cal.cum y (sFrom c))) ∧ w = w') := Lib.hid (fun w => by
    have := Un.refDay_any y (sFrom c) 1 w (by omega) (by omega) (by omega) (by omega) (by omega) (by omega)
    rw [show Cal.st y + Cal.cum y (sFrom c) + 1 - 1 = Cal.st y + Cal.cum y (sFrom c) by omega] at this; exact this)
  have HB := Lib.hid (fun k h1 h2 => @seasHi_bd y (sFrom c) k y0 y1 hf.1 h1 h2)
  have HI := Lib.hid (fun k h1 h2 => @seasHi_in y (sFrom c) k hf.1 h1 h2)
  have HO := Lib.hid (fun k h1 h2 h3 => @seasHi_out y (sFrom c) k hf.1 h1 h2 h3)
  have H0 : Hid (seasHi y (sFrom c) 0 = Cal.st y + Cal.cum y (sFrom c) - 1) := Lib.hid (by unfold seasHi; rw [Int.add_zero, if_pos (by omega)])
  obtain ⟨b0, b1⟩ := HB.out 0 (by omega) (by omega)
  rw [H0.out] at b0 b1
  generalize hsf : sFrom c = sf at *
  generalize hsm : sMany c = sm at *
  generalize Cal.st y + Cal.cum y sf = lo at *
  obtain ⟨f0, f1, f2, f3, f4⟩ := hf
  have HSF := Lib.hid hsf
  have HSM := Lib.hid hsm
  clear hsf hsm
  have hR : Rw w.heap.size [.int .i8 0, .int .i64 0, .int .i8 0, .int .i64 0] w _ := Rw.fresh (Below.refl _ _) _ 26
  unfold rv
  go_enter Tryz.func25, Tryz.ntmps25
  go_upto_region 1 with (fail)
  generalize World.alloc _ _ = W0 at hR ⊢
  go_cut [5] (fun s5 wx => s5 = .int .i64 sf ∧ Rw w.heap.size [.int .i8 0, .int .i64 0, .int .i8 0, .int .i64 0] w wx)
  case first =>
    clear HL HD HB HI HO H0 HSM b0 b1
    have i0 : 0 ≤ c - 21 := by omega
    have i1 : c - 21 < 21 := by omega
    go_wp2
    go_meet
    refine ⟨?_, hR.later (ba (Below.refl _ _) _)⟩
    have hc : c = 21 ∨ c = 22 ∨ c = 23 ∨ c = 24 ∨ c = 25 ∨ c = 26 ∨ c = 27 ∨ c = 28 ∨ c = 29 ∨ c = 30 ∨ c = 31 ∨ c = 32 ∨ c = 33 ∨ c = 34 ∨ c = 35 ∨ c = 36 ∨ c = 37 ∨ c = 38 ∨ c = 39 ∨ c = 40 ∨ c = 41 := by omega
    rw [← HSF.out]
    rcases hc with rfl | rfl | rfl | rfl | rfl | rfl | rfl | rfl | rfl | rfl | rfl | rfl | rfl | rfl | rfl | rfl | rfl | rfl | rfl | rfl | rfl <;> rfl
  case rest =>
    obtain ⟨rfl, hR⟩ := hcut
    go_upto_region 7 with (fail)
    · clear HSF
      have hsm := HSM.out
      clear HSM
      unfold sMany at hsm
      first | rw [if_pos (by omega)] at hsm | rw [if_neg (by omega), if_pos (by omega)] at hsm | rw [if_neg (by omega), if_neg (by omega)] at hsm
      subst hsm
      as_aux_lemma =>
        go_wp2_with (go_at_call 47; with_reducible refine (HD.out _).mono ?_; rintro _ w' ⟨rfl, rfl⟩)
        clear HD
        go_loop [8, 9] (fun hi i => ∃ k : Nat, (k : Int) ≤ 6 ∧ i = .int .i64 k ∧ hi = .int .i64 (seasHi y sf k)) (fun _ i => 10 - (intOf i).toNat)
        case atStart => exact ⟨0, by omega, rfl, by rw [show ((0 : Nat) : Int) = 0 from rfl, H0.out]⟩
        case round =>
          obtain ⟨k, hk, rfl, rfl⟩ := hrel
          by_cases hlt : (k : Int) < 6
          · obtain ⟨g0, g1⟩ := HB.out k (by omega) (by omega)
            obtain ⟨g2, g3⟩ := HB.out (k + 1) (by omega) (by omega)
            by_cases hc : sf + k ≤ 12
            · have HE := Lib.hid (HI.out k (by omega) hc)
              rw [HE.out] at g2 g3
              go_wp2_with (go_at_call 48; refine (HL.out _ _ _ (by omega) (by omega)).mono ?_; rintro _ w' ⟨rfl, rfl⟩)
              go_round
              case rel => exact ⟨k + 1, by omega, by go_num, by rw [show ((k + 1 : Nat) : Int) = k + 1 by omega]; exact congrArg _ HE.out.symm⟩
              case measure => simp [intOf]; omega
            · have HE := Lib.hid (HO.out k (by omega) (by omega) (by omega))
              rw [HE.out] at g2 g3
              go_wp2_with (go_at_call 48; refine (HL.out _ _ _ (by omega) (by omega)).mono ?_; rintro _ w' ⟨rfl, rfl⟩)
              go_round
              case rel => exact ⟨k + 1, by omega, by go_num, by rw [show ((k + 1 : Nat) : Int) = k + 1 by omega]; exact congrArg _ HE.out.symm⟩
              case measure => simp [intOf]; omega
          · have hk2 : (k : Int) = 6 := by omega
            rw [hk2]
            obtain ⟨g0, g1⟩ := HB.out 6 (by omega) (by omega)
            generalize hhi : seasHi y sf 6 = hi at *
            have HHI := Lib.hid hhi
            clear hhi
            clear HB HI HO H0 HL
            go_wp2_with (go_at_call 39; refine (Un.refRun_any _ _ _).mono ?_; rintro _ w1 ⟨rfl, hb⟩; have hX := hR.later hb; unfold Un.rv; have f0 := hX.cell 0 _ rfl; have f1 := hX.cell 1 _ rfl; have f2 := hX.cell 2 _ rfl; have f3 := hX.cell 3 _ rfl; have z0 := hX.free 0 (by simp); have z1 := hX.free 1 (by simp); have z2 := hX.free 2 (by simp); have z3 := hX.free 3 (by simp))
            have hY := hX.setAll [.int .i8 0, .int .i64 lo, .int .i8 0, .int .i64 hi] rfl
            exact bodyPost_ret (v := rv lo hi) (results_lone Tryz.results25 _ rfl (run_loadVar_mid _ _ 0 26 [.int .i8 0, .int .i64 lo, .int .i8 0, .int .i64 hi] _ hY.range Tryz.underlying26 rfl info_run)) rfl ⟨by rw [HHI.out]; rfl, hY.below⟩
    · clear HSF
      have hsm := HSM.out
      clear HSM
      unfold sMany at hsm
      first | rw [if_pos (by omega)] at hsm | rw [if_neg (by omega), if_pos (by omega)] at hsm | rw [if_neg (by omega), if_neg (by omega)] at hsm
      subst hsm
      as_aux_lemma =>
        go_wp2_with (go_at_call 47; with_reducible refine (HD.out _).mono ?_; rintro _ w' ⟨rfl, rfl⟩)
        clear HD
        go_loop [8, 9] (fun hi i => ∃ k : Nat, (k : Int) ≤ 4 ∧ i = .int .i64 k ∧ hi = .int .i64 (seasHi y sf k)) (fun _ i => 10 - (intOf i).toNat)
        case atStart => exact ⟨0, by omega, rfl, by rw [show ((0 : Nat) : Int) = 0 from rfl, H0.out]⟩
        case round =>
          obtain ⟨k, hk, rfl, rfl⟩ := hrel
          by_cases hlt : (k : Int) < 4
          · obtain ⟨g0, g1⟩ := HB.out k (by omega) (by omega)
            obtain ⟨g2, g3⟩ := HB.out (k + 1) (by omega) (by omega)
            by_cases hc : sf + k ≤ 12
            · have HE := Lib.hid (HI.out k (by omega) hc)
              rw [HE.out] at g2 g3
              go_wp2_with (go_at_call 48; refine (HL.out _ _ _ (by omega) (by omega)).mono ?_; rintro _ w' ⟨rfl, rfl⟩)
              go_round
              case rel => exact ⟨k + 1, by omega, by go_num, by rw [show ((k + 1 : Nat) : Int) = k + 1 by omega]; exact congrArg _ HE.out.symm⟩
              case measure => simp [intOf]; omega
            · have HE := Lib.hid (HO.out k (by omega) (by omega) (by omega))
              rw [HE.out] at g2 g3
              go_wp2_with (go_at_call 48; refine (HL.out _ _ _ (by omega) (by omega)).mono ?_; rintro _ w' ⟨rfl, rfl⟩)
              go_round
              case rel => exact ⟨k + 1, by omega, by go_num, by rw [show ((k + 1 : Nat) : Int) = k + 1 by omega]; exact congrArg _ HE.out.symm⟩
              case measure => simp [intOf]; omega
          · have hk2 : (k : Int) = 4 := by omega
            rw [hk2]
            obtain ⟨g0, g1⟩ := HB.out 4 (by omega) (by omega)
            generalize hhi : seasHi y sf 4 = hi at *
            have HHI := Lib.hid hhi
            clear hhi
            clear HB HI HO H0 HL
            go_wp2_with (go_at_call 39; refine (Un.refRun_any _ _ _).mono ?_; rintro _ w1 ⟨rfl, hb⟩; have hX := hR.later hb; unfold Un.rv; have f0 := hX.cell 0 _ rfl; have f1 := hX.cell 1 _ rfl; have f2 := hX.cell 2 _ rfl; have f3 := hX.cell 3 _ rfl; have z0 := hX.free 0 (by simp); have z1 := hX.free 1 (by simp); have z2 := hX.free 2 (by simp); have z3 := hX.free 3 (by simp))
            have hY := hX.setAll [.int .i8 0, .int .i64 lo, .int .i8 0, .int .i64 hi] rfl
            exact bodyPost_ret (v := rv lo hi) (results_lone Tryz.results25 _ rfl (run_loadVar_mid _ _ 0 26 [.int .i8 0, .int .i64 lo, .int .i8 0, .int .i64 hi] _ hY.range Tryz.underlying26 rfl info_run)) rfl ⟨by rw [HHI.out]; rfl, hY.below⟩
    · clear HSF
      have hsm := HSM.out
      clear HSM
      unfold sMany at hsm
      first | rw [if_pos (by omega)] at hsm | rw [if_neg (by omega), if_pos (by omega)] at hsm | rw [if_neg (by omega), if_neg (by omega)] at hsm
      subst hsm
      as_aux_lemma =>
        go_wp2_with (go_at_call 47; with_reducible refine (HD.out _).mono ?_; rintro _ w' ⟨rfl, rfl⟩)
        clear HD
        go_loop [8, 9] (fun hi i => ∃ k : Nat, (k : Int) ≤ 3 ∧ i = .int .i64 k ∧ hi = .int .i64 (seasHi y sf k)) (fun _ i => 10 - (intOf i).toNat)
        case atStart => exact ⟨0, by omega, rfl, by rw [show ((0 : Nat) : Int) = 0 from rfl, H0.out]⟩
        case round =>
          obtain ⟨k, hk, rfl, rfl⟩ := hrel
          by_cases hlt : (k : Int) < 3
          · obtain ⟨g0, g1⟩ := HB.out k (by omega) (by omega)
            obtain ⟨g2, g3⟩ := HB.out (k + 1) (by omega) (by omega)
            by_cases hc : sf + k ≤ 12
            · have HE := Lib.hid (HI.out k (by omega) hc)
              rw [HE.out] at g2 g3
              go_wp2_with (go_at_call 48; refine (HL.out _ _ _ (by omega) (by omega)).mono ?_; rintro _ w' ⟨rfl, rfl⟩)
              go_round
              case rel => exact ⟨k + 1, by omega, by go_num, by rw [show ((k + 1 : Nat) : Int) = k + 1 by omega]; exact congrArg _ HE.out.symm⟩
              case measure => simp [intOf]; omega
            · have HE := Lib.hid (HO.out k (by omega) (by omega) (by omega))
              rw [HE.out] at g2 g3
              go_wp2_with (go_at_call 48; refine (HL.out _ _ _ (by omega) (by omega)).mono ?_; rintro _ w' ⟨rfl, rfl⟩)
              go_round
              case rel => exact ⟨k + 1, by omega, by go_num, by rw [show ((k + 1 : Nat) : Int) = k + 1 by omega]; exact congrArg _ HE.out.symm⟩
              case measure => simp [intOf]; omega
          · have hk2 : (k : Int) = 3 := by omega
            rw [hk2]
            obtain ⟨g0, g1⟩ := HB.out 3 (by omega) (by omega)
            generalize hhi : seasHi y sf 3 = hi at *
            have HHI := Lib.hid hhi
            clear hhi
            clear HB HI HO H0 HL
            go_wp2_with (go_at_call 39; refine (Un.refRun_any _ _ _).mono ?_; rintro _ w1 ⟨rfl, hb⟩; have hX := hR.later hb; unfold Un.rv; have f0 := hX.cell 0 _ rfl; have f1 := hX.cell 1 _ rfl; have f2 := hX.cell 2 _ rfl; have f3 := hX.cell 3 _ rfl; have z0 := hX.free 0 (by simp); have z1 := hX.free 1 (by simp); have z2 := hX.free 2 (by simp); have z3 := hX.free 3 (by simp))
            have hY := hX.setAll [.int .i8 0, .int .i64 lo, .int .i8 0, .int .i64 hi] rfl
            exact bodyPost_ret (v := rv lo hi) (results_lone Tryz.results25 _ rfl (run_loadVar_mid _ _ 0 26 [.int .i8 0, .int .i64 lo, .int .i8 0, .int .i64 hi] _ hY.range Tryz.underlying26 rfl info_run)) rfl ⟨by rw [HHI.out]; rfl, hY.below⟩

theorem rUnitS_any (y c : Int) (w : World) (y0 : -10000000000000000 ≤ y) (y1 : y ≤ 10000000000000000) (c0 : 21 ≤ c) (c1 : c ≤ 41) (k : Int) :
    Calls Tryz.prog 21 #[.int .i64 y, .int .i64 c, .int .i64 k] w fun r w' => r = .returned (rv (unitLo y c k) (unitHi y c k)) ∧ Below w.heap.size w w' := by
  have HS := Lib.hid (fun w => rSeason23_any y c w y0 y1 c0 c1)
  have e1 : unitLo y c k = Cal.st y + Cal.cum y (sFrom c) := by unfold unitLo; rw [if_neg (by omega), if_pos (by omega)]
  have e2 : unitHi y c k = Cal.st (sYear y c) + Cal.cum (sYear y c) (sTo c + 1) - 1 := by unfold unitHi; rw [if_neg (by omega), if_pos (by omega)]
  rw [e1, e2]
  clear e1 e2
  generalize Cal.st y + Cal.cum y (sFrom c) = lo at *
  generalize Cal.st (sYear y c) + Cal.cum (sYear y c) (sTo c + 1) - 1 = hi at *
  have hR : Rw w.heap.size [.int .i8 0, .int .i64 0, .int .i8 0, .int .i64 0] w _ := Rw.fresh (Below.refl _ _) _ 26
  unfold rv at HS
  go_enter Tryz.func21, Tryz.ntmps21
  go_upto_region 1 with (fail)
  generalize World.alloc _ _ = W0 at hR ⊢
  go_wp2_with (go_at_call 25; refine (HS.out _).mono ?_; rintro _ w1 ⟨rfl, hb⟩; have hX := hR.later hb; have f0 := hX.cell 0 _ rfl; have f1 := hX.cell 1 _ rfl; have f2 := hX.cell 2 _ rfl; have f3 := hX.cell 3 _ rfl; have z0 := hX.free 0 (by simp); have z1 := hX.free 1 (by simp); have z2 := hX.free 2 (by simp); have z3 := hX.free 3 (by simp))
  have hY := hX.setAll [.int .i8 0, .int .i64 lo, .int .i8 0, .int .i64 hi] rfl
  exact bodyPost_ret (v := rv lo hi) (results_lone Tryz.results21 _ rfl (run_loadVar_mid _ _ 0 26 [.int .i8 0, .int .i64 lo, .int .i8 0, .int .i64 hi] _ hY.range Tryz.underlying26 rfl info_run)) rfl ⟨rfl, hY.below⟩

theorem rUnitD_any (y m k : Int) (w : World) (y0 : -10000000000000000 ≤ y) (y1 : y ≤ 10000000000000000) (m0 : 1 ≤ m) (m1 : m ≤ 12) (k0 : 1 ≤ k) (k1 : k ≤ 31) :
    Calls Tryz.prog 21 #[.int .i64 y, .int .i64 m, .int .i64 k] w fun r w' => r = .returned (rv (unitLo y m k) (unitHi y m k)) ∧ Below w.heap.size w w' := by
  have HD := Lib.hid (fun w => Un.refDay_any y m k w (by omega) (by omega) (by omega) (by omega) (by omega) (by omega))
  have e1 : unitLo y m k = Cal.st y + Cal.cum y m + k - 1 := by unfold unitLo; rw [if_neg (by omega), if_neg (by omega), if_neg (by omega)]
  have e2 : unitHi y m k = Cal.st y + Cal.cum y m + k - 1 := by unfold unitHi; rw [if_neg (by omega), if_neg (by omega), if_neg (by omega)]
  rw [e1, e2]
  clear e1 e2
  generalize Cal.st y + Cal.cum y m + k - 1 = lo at *
  have hR : Rw w.heap.size [.int .i8 0, .int .i64 0, .int .i8 0, .int .i64 0] w _ := Rw.fresh (Below.refl _ _) _ 26
  go_enter Tryz.func21, Tryz.ntmps21
  go_upto_region 1 with (fail)
  generalize World.alloc _ _ = W0 at hR ⊢
  go_wp2_with (first | (go_at_call 47; with_reducible refine (HD.out _).mono ?_; rintro _ w' ⟨rfl, rfl⟩) | (go_at_call 39; refine (Un.refRun_any _ _ _).mono ?_; rintro _ w1 ⟨rfl, hb⟩; have hX := hR.later hb; unfold Un.rv; have f0 := hX.cell 0 _ rfl; have f1 := hX.cell 1 _ rfl; have f2 := hX.cell 2 _ rfl; have f3 := hX.cell 3 _ rfl; have z0 := hX.free 0 (by simp); have z1 := hX.free 1 (by simp); have z2 := hX.free 2 (by simp); have z3 := hX.free 3 (by simp)))
  have hY := hX.setAll [.int .i8 0, .int .i64 lo, .int .i8 0, .int .i64 lo] rfl
  exact bodyPost_ret (v := rv lo lo) (results_lone Tryz.results21 _ rfl (run_loadVar_mid _ _ 0 26 [.int .i8 0, .int .i64 lo, .int .i8 0, .int .i64 lo] _ hY.range Tryz.underlying26 rfl info_run)) rfl ⟨rfl, hY.below⟩

theorem rUnit_any (y m k : Int) (w : World) (y0 : -10000000000000000 ≤ y) (y1 : y ≤ 10000000000000000) (hm : m = 0 ∨ (1 ≤ m ∧ m ≤ 12) ∨ (21 ≤ m ∧ m ≤ 41)) (hk : k = 0 ∨ (1 ≤ m ∧ m ≤ 12 ∧ 1 ≤ k ∧ k ≤ 31)) :
    Calls Tryz.prog 21 #[.int .i64 y, .int .i64 m, .int .i64 k] w fun r w' => r = .returned (rv (unitLo y m k) (unitHi y m k)) ∧ Below w.heap.size w w' := by
  rcases hm with rfl | hm | hm
  · obtain rfl : k = 0 := by omega
    exact Un.refUnit0_any y w y0 y1
  · by_cases c : k = 0
    · subst c
      have := Un.refUnitM_any y m w y0 y1 hm.1 hm.2
      have e1 : unitLo y m 0 = Cal.st y + Cal.cum y m := by unfold unitLo; rw [if_neg (by omega), if_neg (by omega), if_pos rfl]
      have e2 : unitHi y m 0 = Cal.st y + Cal.cum y (m + 1) - 1 := by unfold unitHi; rw [if_neg (by omega), if_neg (by omega), if_pos rfl]
      rw [e1, e2]
      exact this
    · exact rUnitD_any y m k w y0 y1 hm.1 hm.2 (by omega) (by omega)
  · exact rUnitS_any y m w y0 y1 hm.1 hm.2 k
end Bk
end Go.Proofs.YtipjmaimjchckaaGreatDoor

/-! THE WALK of units.unit. -/
set_option linter.unusedSimpArgs false
set_option linter.unusedVariables false
set_option maxRecDepth 100000
namespace Go.Proofs.YtipjmaimjchckaaGreatDoor
open Go.RowKit Go.Lib
namespace Bk
open Un (ba bt ri rb ret2_ii ret2_bi)

def lstR (lo hi : Int) : List Value := [.int .i8 0, .int .i64 lo, .int .i8 0, .int .i64 hi]
/-- What a date's unit is asked of: the components that it has. -/
def Dt.mOf (d : Dt) (m : Int) : Int := if d.mo.size = 0 then 0 else m
def Dt.kOf (d : Dt) (k : Int) : Int := if d.da.size = 0 then 0 else k

set_option maxHeartbeats 4000000 in
theorem unit_any (d : Dt) (y m k : Int) (w : World) (hw : WOk w) (y0 : -10000000000000000 ≤ y) (y1 : y ≤ 10000000000000000)
    (hm : d.mo.size ≠ 0 → (1 ≤ m ∧ m ≤ 12) ∨ (21 ≤ m ∧ m ≤ 41 ∧ sYear y m ≤ 10000000000000000)) (hk : d.da.size ≠ 0 → 1 ≤ k ∧ k ≤ 31) (hmd : d.mo.size = 0 → d.da.size = 0) :
    Calls Tryz.prog 52 #[dtv d, cvv y m k] w fun r w' => r = .returned (.tuple #[rv (unitLo y (d.mOf m) (d.kOf k)) (unitHi y (d.mOf m) (d.kOf k)), .int .i64 0]) ∧ Below w.heap.size w w' := by
  have hD : Rw w.heap.size (lstD d) w _ := Rw.fresh (Below.refl _ _) (lstD d) 52
  have hD2 := Rw.fresh hD.below (lstC y m k) 56
  have hD3 := Rw.fresh hD2.below (lstR 0 0) 26
  simp only [alloc_size] at hD2 hD3
  have hA : _ ∧ _ ∧ _ := ⟨(hD.later (ba (Below.refl _ _) (.cells (lstC y m k).toArray 56))).later (ba (Below.refl _ _) (.cells (lstR 0 0).toArray 26)), hD2.later (ba (Below.refl _ _) (.cells (lstR 0 0).toArray 26)), hD3⟩
  clear hD hD2 hD3
  unfold dtv cvv
  unfold lstD lstC lstR at hA
  obtain ⟨LO, hLO⟩ : ∃ x, x = unitLo y (d.mOf m) (d.kOf k) := ⟨_, rfl⟩
  obtain ⟨HI, hHI⟩ : ∃ x, x = unitHi y (d.mOf m) (d.kOf k) := ⟨_, rfl⟩
  rw [← hLO, ← hHI]
  unfold unitLo Dt.mOf Dt.kOf at hLO
  unfold unitHi Dt.mOf Dt.kOf at hHI
  have HR : Hid (∀ lo hi w, Calls Tryz.prog 38 #[.int .i64 lo, .int .i64 hi, .int .i64 0] w fun r w' => r = .returned (.tuple #[rv lo hi, .int .i64 0]) ∧ Below w.heap.size w w') := Lib.hid (fun lo hi w => Un.unitsRun_any lo hi 0 w)
  by_cases c0 : d.mo.size = 0
  · have x0 := emp_yes c0
    have cal := fun W hb => Un.unitsYear_any y W (hw.below (w' := W) hb).cal
    rw [if_pos ⟨y0, y1⟩, if_pos ⟨y0, y1⟩, if_pos ⟨y0, y1⟩] at cal
    have HY := Lib.hid cal
    have E1 : LO = Cal.st y := by rw [hLO, if_pos c0, if_pos rfl]
    have E2 : HI = Cal.st (y + 1) - 1 := by rw [hHI, if_pos c0, if_pos rfl]
    rw [← E1, ← E2] at HY
    clear cal hLO hHI E1 E2 hm hk hmd hw
    go_enter Tryz.func52, Tryz.ntmps52
    go_upto_region 1 with (fail)
    generalize World.alloc _ _ = W0 at hA ⊢
    have hD := hA.1
    have HE : Hid (Rw (w.heap.size + 1) (lstC y m k) w W0) := Lib.hid hA.2.1
    have HF : Hid (Rw (w.heap.size + 1 + 1) [.int .i8 0, .int .i64 0, .int .i8 0, .int .i64 0] w W0) := Lib.hid hA.2.2
    have HB := Lib.hid hD.below
    obtain ⟨q0, q1, q2, q3, q4, q5, q6, q7, q8, q9⟩ := hD.dcells
    have e0 := HE.out.cell 0 _ rfl
    have e1 := HE.out.cell 1 _ rfl
    have e2 := HE.out.cell 2 _ rfl
    clear hD hA
    go_wp2_with (first
      | (go_at_call 70; refine (HY.out _ HB.out).mono ?_; rintro _ w1 ⟨rfl, hb⟩; have HE := Lib.hid (HE.out.later hb); have HF := Lib.hid (HF.out.later hb); have HB := Lib.hid (bt HB.out hb); have e0 := HE.out.cell 0 _ rfl; have e1 := HE.out.cell 1 _ rfl; have e2 := HE.out.cell 2 _ rfl; have f0 := HF.out.cell 0 _ rfl; have f1 := HF.out.cell 1 _ rfl; have f2 := HF.out.cell 2 _ rfl; have f3 := HF.out.cell 3 _ rfl; have z0 := HF.out.free 0 (by simp); have z1 := HF.out.free 1 (by simp); have z2 := HF.out.free 2 (by simp); have z3 := HF.out.free 3 (by simp))
      | (go_at_call 38; refine (HR.out _ _ _).mono ?_; rintro _ w1 ⟨rfl, hb⟩; unfold rv; have HE := Lib.hid (HE.out.later hb); have HF := Lib.hid (HF.out.later hb); have HB := Lib.hid (bt HB.out hb); have e0 := HE.out.cell 0 _ rfl; have e1 := HE.out.cell 1 _ rfl; have e2 := HE.out.cell 2 _ rfl; have f0 := HF.out.cell 0 _ rfl; have f1 := HF.out.cell 1 _ rfl; have f2 := HF.out.cell 2 _ rfl; have f3 := HF.out.cell 3 _ rfl; have z0 := HF.out.free 0 (by simp); have z1 := HF.out.free 1 (by simp); have z2 := HF.out.free 2 (by simp); have z3 := HF.out.free 3 (by simp)))
    have hY := HF.out.setAll [.int .i8 0, .int .i64 LO, .int .i8 0, .int .i64 HI] rfl
    exact bodyPost_ret (v := .tuple #[rv LO HI, .int .i64 0]) (results_two Tryz.results52 _ rfl rfl (run_loadVar_mid _ _ 0 26 [.int .i8 0, .int .i64 LO, .int .i8 0, .int .i64 HI] _ hY.range Tryz.underlying26 rfl info_run)) rfl ⟨rfl, hY.below⟩
  have x0 := emp_no c0
  rw [if_neg c0] at hLO hHI
  rcases hm c0 with ⟨m0, m1⟩ | ⟨m0, m1, hs⟩
  case inr =>
    have HS := Lib.hid (fun W hb => seasRun_ok y m W (hw.below (w' := W) hb) y0 y1 m0 m1 hs)
    have E1 : LO = Cal.st y + Cal.cum y (sFrom m) := by rw [hLO, if_neg (by omega), if_pos (by omega)]
    have E2 : HI = Cal.st (sYear y m) + Cal.cum (sYear y m) (sTo m + 1) - 1 := by rw [hHI, if_neg (by omega), if_pos (by omega)]
    rw [← E1, ← E2] at HS
    unfold rv at HS
    clear hLO hHI E1 E2 hm hk hmd hw hs HR
    go_enter Tryz.func52, Tryz.ntmps52
    go_upto_region 1 with (fail)
    generalize World.alloc _ _ = W0 at hA ⊢
    have hD := hA.1
    have HE : Hid (Rw (w.heap.size + 1) (lstC y m k) w W0) := Lib.hid hA.2.1
    have HF : Hid (Rw (w.heap.size + 1 + 1) [.int .i8 0, .int .i64 0, .int .i8 0, .int .i64 0] w W0) := Lib.hid hA.2.2
    have HB := Lib.hid hD.below
    obtain ⟨q0, q1, q2, q3, q4, q5, q6, q7, q8, q9⟩ := hD.dcells
    have e0 := HE.out.cell 0 _ rfl
    have e1 := HE.out.cell 1 _ rfl
    have e2 := HE.out.cell 2 _ rfl
    clear hD hA
    have t1 : decide (12 < m) = true := decide_eq_true (by omega)
    go_wp2_with (go_at_call 82; refine (HS.out _ HB.out).mono ?_; rintro _ w1 ⟨rfl, hb⟩; have HE := Lib.hid (HE.out.later hb); have HF := Lib.hid (HF.out.later hb); have HB := Lib.hid (bt HB.out hb); have e0 := HE.out.cell 0 _ rfl; have e1 := HE.out.cell 1 _ rfl; have e2 := HE.out.cell 2 _ rfl; have f0 := HF.out.cell 0 _ rfl; have f1 := HF.out.cell 1 _ rfl; have f2 := HF.out.cell 2 _ rfl; have f3 := HF.out.cell 3 _ rfl; have z0 := HF.out.free 0 (by simp); have z1 := HF.out.free 1 (by simp); have z2 := HF.out.free 2 (by simp); have z3 := HF.out.free 3 (by simp))
    have hY := HF.out.setAll [.int .i8 0, .int .i64 LO, .int .i8 0, .int .i64 HI] rfl
    exact bodyPost_ret (v := .tuple #[rv LO HI, .int .i64 0]) (results_two Tryz.results52 _ rfl rfl (run_loadVar_mid _ _ 0 26 [.int .i8 0, .int .i64 LO, .int .i8 0, .int .i64 HI] _ hY.range Tryz.underlying26 rfl info_run)) rfl ⟨rfl, hY.below⟩
  have hq : (12 * y + m - 1) / 12 = y ∧ (12 * y + m - 1) % 12 = m - 1 := by omega
  have i0 : -9223372036854775808 ≤ 12 * y + m - 1 := by omega
  have i1 : 12 * y + m - 1 < 9223372036854775808 := by omega
  have cal := fun W hb => Un.unitsMonth_any (12 * y + m - 1) W (hw.below (w' := W) hb).cal i0 i1
  rw [show Un.monthC (12 * y + m - 1) = (Cal.st y + Cal.cum y m, Cal.st y + Cal.cum y (m + 1) - 1, 0) by
    unfold Un.monthC; rw [hq.1, hq.2, if_pos ⟨y0, y1⟩, show m - 1 + 1 = m by omega, show m - 1 + 2 = m + 1 by omega]] at cal
  have HM := Lib.hid cal
  have sb := Un.st_bd2 (y := y) (by omega) (by omega)
  have cb := @Cal.cum_bd y m (by omega) (by omega)
  rw [if_neg (by omega), if_neg (by omega)] at hLO hHI
  clear cal hq
  by_cases c1 : d.da.size = 0
  · have x1 := emp_yes c1
    rw [if_pos c1, if_pos rfl] at hLO hHI
    have E1 := hLO
    have E2 := hHI
    rw [← E1, ← E2] at HM
    clear hLO hHI E1 E2 hm hk hmd hw
    go_enter Tryz.func52, Tryz.ntmps52
    go_upto_region 1 with (fail)
    generalize World.alloc _ _ = W0 at hA ⊢
    have hD := hA.1
    have HE : Hid (Rw (w.heap.size + 1) (lstC y m k) w W0) := Lib.hid hA.2.1
    have HF : Hid (Rw (w.heap.size + 1 + 1) [.int .i8 0, .int .i64 0, .int .i8 0, .int .i64 0] w W0) := Lib.hid hA.2.2
    have HB := Lib.hid hD.below
    obtain ⟨q0, q1, q2, q3, q4, q5, q6, q7, q8, q9⟩ := hD.dcells
    have e0 := HE.out.cell 0 _ rfl
    have e1 := HE.out.cell 1 _ rfl
    have e2 := HE.out.cell 2 _ rfl
    clear hD hA
    go_wp2_with (first
      | (go_at_call 73; refine (HM.out _ HB.out).mono ?_; rintro _ w1 ⟨rfl, hb⟩; have HE := Lib.hid (HE.out.later hb); have HF := Lib.hid (HF.out.later hb); have HB := Lib.hid (bt HB.out hb); have e0 := HE.out.cell 0 _ rfl; have e1 := HE.out.cell 1 _ rfl; have e2 := HE.out.cell 2 _ rfl; have f0 := HF.out.cell 0 _ rfl; have f1 := HF.out.cell 1 _ rfl; have f2 := HF.out.cell 2 _ rfl; have f3 := HF.out.cell 3 _ rfl; have z0 := HF.out.free 0 (by simp); have z1 := HF.out.free 1 (by simp); have z2 := HF.out.free 2 (by simp); have z3 := HF.out.free 3 (by simp))
      | (go_at_call 38; refine (HR.out _ _ _).mono ?_; rintro _ w1 ⟨rfl, hb⟩; unfold rv; have HE := Lib.hid (HE.out.later hb); have HF := Lib.hid (HF.out.later hb); have HB := Lib.hid (bt HB.out hb); have e0 := HE.out.cell 0 _ rfl; have e1 := HE.out.cell 1 _ rfl; have e2 := HE.out.cell 2 _ rfl; have f0 := HF.out.cell 0 _ rfl; have f1 := HF.out.cell 1 _ rfl; have f2 := HF.out.cell 2 _ rfl; have f3 := HF.out.cell 3 _ rfl; have z0 := HF.out.free 0 (by simp); have z1 := HF.out.free 1 (by simp); have z2 := HF.out.free 2 (by simp); have z3 := HF.out.free 3 (by simp)))
    have hY := HF.out.setAll [.int .i8 0, .int .i64 LO, .int .i8 0, .int .i64 HI] rfl
    exact bodyPost_ret (v := .tuple #[rv LO HI, .int .i64 0]) (results_two Tryz.results52 _ rfl rfl (run_loadVar_mid _ _ 0 26 [.int .i8 0, .int .i64 LO, .int .i8 0, .int .i64 HI] _ hY.range Tryz.underlying26 rfl info_run)) rfl ⟨rfl, hY.below⟩
  · have x1 := emp_no c1
    obtain ⟨k0, k1⟩ := hk c1
    rw [if_neg c1, if_neg (by omega)] at hLO hHI
    have E1 : LO = Cal.st y + Cal.cum y m + k - 1 := hLO
    have E2 : HI = Cal.st y + Cal.cum y m + k - 1 := hHI
    have E3 : HI = LO := by omega
    subst E3
    clear hLO hHI hm hk hmd hw E2
    have lb : -9200000000000001000 ≤ Cal.st y + Cal.cum y m ∧ Cal.st y + Cal.cum y m ≤ 9200000000000001000 := by omega
    obtain ⟨lb0, lb1⟩ := lb
    clear sb cb
    generalize Cal.st y + Cal.cum y m = lo at *
    subst E1
    go_enter Tryz.func52, Tryz.ntmps52
    go_upto_region 1 with (fail)
    generalize World.alloc _ _ = W0 at hA ⊢
    have hD := hA.1
    have HE : Hid (Rw (w.heap.size + 1) (lstC y m k) w W0) := Lib.hid hA.2.1
    have HF : Hid (Rw (w.heap.size + 1 + 1) [.int .i8 0, .int .i64 0, .int .i8 0, .int .i64 0] w W0) := Lib.hid hA.2.2
    have HB := Lib.hid hD.below
    obtain ⟨q0, q1, q2, q3, q4, q5, q6, q7, q8, q9⟩ := hD.dcells
    have e0 := HE.out.cell 0 _ rfl
    have e1 := HE.out.cell 1 _ rfl
    have e2 := HE.out.cell 2 _ rfl
    clear hD hA
    go_wp2_with (first
      | (go_at_call 73; refine (HM.out _ HB.out).mono ?_; rintro _ w1 ⟨rfl, hb⟩; have HE := Lib.hid (HE.out.later hb); have HF := Lib.hid (HF.out.later hb); have HB := Lib.hid (bt HB.out hb); have e0 := HE.out.cell 0 _ rfl; have e1 := HE.out.cell 1 _ rfl; have e2 := HE.out.cell 2 _ rfl; have f0 := HF.out.cell 0 _ rfl; have f1 := HF.out.cell 1 _ rfl; have f2 := HF.out.cell 2 _ rfl; have f3 := HF.out.cell 3 _ rfl; have z0 := HF.out.free 0 (by simp); have z1 := HF.out.free 1 (by simp); have z2 := HF.out.free 2 (by simp); have z3 := HF.out.free 3 (by simp))
      | (go_at_call 38; refine (HR.out _ _ _).mono ?_; rintro _ w1 ⟨rfl, hb⟩; unfold rv; have HE := Lib.hid (HE.out.later hb); have HF := Lib.hid (HF.out.later hb); have HB := Lib.hid (bt HB.out hb); have e0 := HE.out.cell 0 _ rfl; have e1 := HE.out.cell 1 _ rfl; have e2 := HE.out.cell 2 _ rfl; have f0 := HF.out.cell 0 _ rfl; have f1 := HF.out.cell 1 _ rfl; have f2 := HF.out.cell 2 _ rfl; have f3 := HF.out.cell 3 _ rfl; have z0 := HF.out.free 0 (by simp); have z1 := HF.out.free 1 (by simp); have z2 := HF.out.free 2 (by simp); have z3 := HF.out.free 3 (by simp)))
    have hY := HF.out.setAll [.int .i8 0, .int .i64 (lo + k - 1), .int .i8 0, .int .i64 (lo + k - 1)] rfl
    exact bodyPost_ret (v := .tuple #[rv (lo + k - 1) (lo + k - 1), .int .i64 0]) (results_two Tryz.results52 _ rfl rfl (run_loadVar_mid _ _ 0 26 [.int .i8 0, .int .i64 (lo + k - 1), .int .i8 0, .int .i64 (lo + k - 1)] _ hY.range Tryz.underlying26 rfl info_run)) rfl ⟨rfl, hY.below⟩
end Bk
end Go.Proofs.YtipjmaimjchckaaGreatDoor

/-! THE WALKS of units.Of, Filled, Precision. -/
set_option linter.unusedSimpArgs false
set_option linter.unusedVariables false
set_option maxRecDepth 100000
namespace Go.Proofs.YtipjmaimjchckaaGreatDoor
open Go.RowKit Go.Lib
namespace Bk
open Un (ba bt ri rb ret2_ii ret2_bi)

theorem yVal_in {d : Dt} (hm : d.mask = false) : d.In (yVal d.neg d.dg d.ex) := by
  unfold Dt.In yVal; rw [hm]; rfl
theorem hasB3 {a b c : ByteArray} (h : hasB 88 (a ++ b ++ c) = false) : hasB 88 a = false ∧ hasB 88 b = false ∧ hasB 88 c = false := by
  rw [hasB_append, hasB_append, Bool.or_eq_false_iff, Bool.or_eq_false_iff] at h
  exact ⟨h.1.1, h.1.2, h.2⟩
theorem msk_facts {d : Dt} (h : d.msk = false) : d.mask = false ∧ hasB 88 d.mo = false ∧ hasB 88 d.da = false ∧ d.sig ≤ 0 := by
  unfold Dt.msk at h
  rw [Bool.or_eq_false_iff, decide_eq_false_iff_not] at h
  obtain ⟨h1, h2, h3⟩ := hasB3 h.1
  exact ⟨h1, h2, h3, by omega⟩
/-- A text of two bytes that agrees with a number, and has no X, is that number's digits. -/
theorem agr_dig {s : ByteArray} {n : Int} (h : agrB s n = true) (hx : hasB 88 s = false) (n0 : 0 ≤ n) (n1 : n ≤ 99) : s.size = 2 ∧ allB isDig s = true ∧ decS s = n := by
  unfold agrB at h
  simp at h
  obtain ⟨h2, h0, h1⟩ := h
  have nx : ∀ i, i < s.size → byt s i ≠ 88 := fun i hi c => by rw [(hasB_iff 88 s).2 ⟨i, hi, c⟩] at hx; cases hx
  have x0 := nx 0 (by omega); have x1 := nx 1 (by omega)
  have b0 : byt s 0 = 48 + n / 10 := by omega
  have b1 : byt s 1 = 48 + n % 10 := by omega
  refine ⟨h2, ?_, ?_⟩
  · rw [allB_iff]; intro i hi
    obtain rfl | rfl : i = 0 ∨ i = 1 := by omega
    · unfold isDig; exact decide_eq_true (by omega)
    · unfold isDig; exact decide_eq_true (by omega)
  · obtain ⟨a, b, e, e0, e1⟩ := two_list h2
    unfold decS; rw [e]; simp only [dec]; omega
theorem season_dig {s : ByteArray} (h : seasonC s ≠ 0) : s.size = 2 ∧ allB isDig s = true ∧ decS s = seasonC s := by
  unfold seasonC at h ⊢
  split at h
  · rename_i g
    rw [if_pos g]
    refine ⟨g.1, ?_, ?_⟩
    · rw [allB_iff]; intro i hi
      obtain rfl | rfl : i = 0 ∨ i = 1 := by omega
      · unfold isDig; exact decide_eq_true (by omega)
      · unfold isDig; exact decide_eq_true (by omega)
    · obtain ⟨a, b, e, e0, e1⟩ := two_list g.1
      unfold decS; rw [e]; simp only [dec]; omega
  · exact absurd rfl h
theorem dec_empty {s : ByteArray} (h : s.size = 0) : decS s = 0 ∧ allB isDig s = true := by
  have e : s.data.toList = [] := List.length_eq_zero_iff.1 (by simpa using h)
  unfold decS allB; rw [e]; exact ⟨rfl, rfl⟩
/-- The month's number of a right date without X. -/
theorem mo_num {d : Dt} (h : d.form = 0) (hx : hasB 88 d.mo = false) : d.mo.size ≤ 2 ∧ allB isDig d.mo = true ∧ d.ms = [decS d.mo] ∧ (d.mo.size ≠ 0 → (1 ≤ decS d.mo ∧ decS d.mo ≤ 12 ∧ d.season = 0) ∨ (21 ≤ decS d.mo ∧ decS d.mo ≤ 41 ∧ d.season = decS d.mo)) := by
  have hbd : d.season = 0 ∨ (21 ≤ d.season ∧ d.season ≤ 41) := seasonC_bd d.mo
  rcases form_facts h with ⟨h1, h2, h3⟩ | ⟨h1, h2, h3, h4⟩ | ⟨h1, h2, h3⟩
  · obtain ⟨a, b, c⟩ := season_dig h1
    change decS d.mo = d.season at c
    refine ⟨by omega, b, by rw [Dt.ms_season h1, c], fun _ => .inr (by omega)⟩
  · obtain ⟨n, n1, n2, ha⟩ := (someA_iff _ _).1 h3
    obtain ⟨a, b, c⟩ := agr_dig ha hx (by omega) (by omega)
    refine ⟨by omega, b, ?_, fun _ => .inl (by omega)⟩
    rw [Dt.ms_fits h1 h2]
    have hs := fitsL_sorted d.mo 12
    have hall : ∀ u, u ∈ fitsL d.mo 12 → u = decS d.mo := fun u hu => by
      obtain ⟨u1, u2, u3⟩ := (mem_fitsL _ _ _).1 hu
      exact (agr_dig u3 hx (by omega) (by omega)).2.2.symm
    have hin : decS d.mo ∈ fitsL d.mo 12 := (mem_fitsL _ _ _).2 ⟨by omega, by omega, by rw [c]; exact ha⟩
    generalize fitsL d.mo 12 = l at *
    match l, hs, hall, hin with
    | [], _, _, hin => cases hin
    | [u], _, hall, _ => rw [hall u (List.mem_cons_self ..)]
    | u :: v :: r, hs, hall, _ =>
      have e1 := hall u (List.mem_cons_self ..)
      have e2 := hall v (List.mem_cons_of_mem _ (List.mem_cons_self ..))
      have := (List.pairwise_cons.1 hs).1 v (List.mem_cons_self ..)
      omega
  · obtain ⟨e1, e2⟩ := dec_empty h2
    refine ⟨by omega, e2, by rw [Dt.ms_none h1 h2, e1], fun c => absurd h2 c⟩
theorem da_num {d : Dt} (h : d.form = 0) (hx : hasB 88 d.da = false) : d.da.size ≤ 2 ∧ allB isDig d.da = true ∧ d.ds = [decS d.da] ∧ (d.da.size ≠ 0 → 1 ≤ decS d.da ∧ decS d.da ≤ 31) := by
  by_cases c : d.da.size = 0
  · obtain ⟨e1, e2⟩ := dec_empty c
    exact ⟨by omega, e2, by rw [Dt.ds_none c, e1], fun h => absurd c h⟩
  · have h4 : someA d.da 31 = true := by
      rcases form_facts h with ⟨_, _, h⟩ | ⟨_, _, _, h⟩ | ⟨_, _, h⟩
      · exact absurd h c
      · rcases h with h | h
        · exact absurd h c
        · exact h
      · exact absurd h c
    obtain ⟨n, n1, n2, ha⟩ := (someA_iff _ _).1 h4
    obtain ⟨a, b, e⟩ := agr_dig ha hx (by omega) (by omega)
    refine ⟨by omega, b, ?_, fun _ => by omega⟩
    rw [Dt.ds_fits c]
    have hs := fitsL_sorted d.da 31
    have hall : ∀ u, u ∈ fitsL d.da 31 → u = decS d.da := fun u hu => by
      obtain ⟨u1, u2, u3⟩ := (mem_fitsL _ _ _).1 hu
      exact (agr_dig u3 hx (by omega) (by omega)).2.2.symm
    have hin : decS d.da ∈ fitsL d.da 31 := (mem_fitsL _ _ _).2 ⟨by omega, by omega, by rw [e]; exact ha⟩
    generalize fitsL d.da 31 = l at *
    match l, hs, hall, hin with
    | [], _, _, hin => cases hin
    | [u], _, hall, _ => rw [hall u (List.mem_cons_self ..)]
    | u :: v :: r, hs, hall, _ =>
      have e1 := hall u (List.mem_cons_self ..)
      have e2 := hall v (List.mem_cons_of_mem _ (List.mem_cons_self ..))
      have := (List.pairwise_cons.1 hs).1 v (List.mem_cons_self ..)
      omega
theorem err_zero {d : Dt} (h : d.err = 0) : d.form = 0 := by
  by_cases c : d.form = 0
  · exact c
  · rw [err_form c] at h; exact absurd h c

/-- A season's end, of a right date's years. -/
theorem far_no {d : Dt} {y m : Int} (hk : d.yok = true) (hf : d.far = false) (hy : d.In y) (hm : m = d.season) (hs : d.season ≠ 0) : sYear y m ≤ 10000000000000000 := by
  have hb := Dt.in_bd hk hy
  unfold sYear
  split
  · omega
  · rename_i hc
    have hbd : d.season = 0 ∨ (21 ≤ d.season ∧ d.season ≤ 41) := seasonC_bd d.mo
    have hw : d.season = 24 ∨ d.season = 28 ∨ d.season = 30 := by
      rw [hm] at hc
      generalize d.season = z at *
      have hz : z = 21 ∨ z = 22 ∨ z = 23 ∨ z = 24 ∨ z = 25 ∨ z = 26 ∨ z = 27 ∨ z = 28 ∨ z = 29 ∨ z = 30 ∨ z = 31 ∨ z = 32 ∨ z = 33 ∨ z = 34 ∨ z = 35 ∨ z = 36 ∨ z = 37 ∨ z = 38 ∨ z = 39 ∨ z = 40 ∨ z = 41 := by omega
      rcases hz with rfl | rfl | rfl | rfl | rfl | rfl | rfl | rfl | rfl | rfl | rfl | rfl | rfl | rfl | rfl | rfl | rfl | rfl | rfl | rfl | rfl <;> first | omega | (exfalso; revert hc; decide)
    have e1 : (decide (d.season = 24) || (decide (d.season = 28) || decide (d.season = 30))) = true := by rcases hw with h | h | h <;> simp [h]
    unfold Dt.far at hf
    rw [e1, Bool.true_and] at hf
    cases hmk : d.mask
    · rw [hmk] at hf
      simp at hf
      unfold Dt.In at hy
      rw [hmk] at hy
      simp at hy
      cases hn : d.neg
      · rw [hn] at hy; simp at hy
        by_cases c : d.mag = 10000000000000000
        · have := hf c; rw [hn] at this; cases this
        · omega
      · rw [hn] at hy; simp at hy
        have := magV_pos d.dg d.ex
        change 0 ≤ d.mag at this
        omega
    · unfold Dt.In at hy
      rw [hmk, if_pos rfl] at hy
      split at hy
      · have := hy.1.1; have := hy.1.2.1; omega
      · have := hy.2.1; omega

/-- The error of units.Of, and the days of the unit. -/
noncomputable def Dt.uE (d : Dt) : Int := if d.err ≠ 0 then d.err else if d.msk = true then 1 else 0
noncomputable def Dt.uLo (d : Dt) : Int := if d.uE ≠ 0 then 0 else unitLo (yVal d.neg d.dg d.ex) (decS d.mo) (decS d.da)
noncomputable def Dt.uHi (d : Dt) : Int := if d.uE ≠ 0 then 0 else unitHi (yVal d.neg d.dg d.ex) (decS d.mo) (decS d.da)

set_option maxHeartbeats 4000000 in
theorem uOf_any (d : Dt) (w : World) (hk : WOk w) (hs : d.mo.size ≤ 1000) (hy : d.dg.size ≤ 1000) (ha : d.da.size ≤ 1000) (m0 : 0 ≤ d.m0) (m1 : 0 ≤ d.m1) (m2 : 0 ≤ d.m2) :
    Calls Tryz.prog 23 #[dtv d] w fun r w' => r = .returned (.tuple #[rv d.uLo d.uHi, .int .i64 d.uE]) ∧ Below w.heap.size w w' := by
  have hD : Rw w.heap.size (lstD d) w _ := Rw.fresh (Below.refl _ _) (lstD d) 52
  have hD2 := Rw.fresh hD.below (lstR 0 0) 26
  simp only [alloc_size] at hD2
  have hA : _ ∧ _ := ⟨hD.later (ba (Below.refl _ _) (.cells (lstR 0 0).toArray 26)), hD2⟩
  clear hD hD2
  have HC := Lib.hid (fun W hb => fCheck_any d W (hk.below (w' := W) hb) hs hy m0 m1 m2)
  have HMK := Lib.hid (fun w => uMasked_any d w hs hy ha)
  rw [dtv_eq] at HC HMK
  obtain ⟨E, hE⟩ : ∃ E, E = d.uE := ⟨_, rfl⟩
  obtain ⟨LO, hLO⟩ : ∃ x, x = d.uLo := ⟨_, rfl⟩
  obtain ⟨HI, hHI⟩ : ∃ x, x = d.uHi := ⟨_, rfl⟩
  rw [← hE, ← hLO, ← hHI]
  unfold Dt.uLo at hLO
  unfold Dt.uHi at hHI
  rw [← hE] at hLO hHI
  unfold Dt.uE at hE
  unfold dtv
  unfold lstD lstR at hA
  by_cases c : d.err = 0
  case neg =>
    rw [if_pos c] at hE
    have E0 : E ≠ 0 := by rw [hE]; exact c
    rw [if_pos E0] at hLO hHI
    rw [← hE] at HC
    subst hLO hHI
    clear hE hk hs hy ha m0 m1 m2 c HMK
    go_enter Tryz.func23, Tryz.ntmps23
    go_upto_region 1 with (fail)
    generalize World.alloc _ _ = W0 at hA ⊢
    have HD : Hid (Rw w.heap.size (lstD d) w W0) := Lib.hid hA.1
    have HF : Hid (Rw (w.heap.size + 1) (lstR 0 0) w W0) := Lib.hid hA.2
    have hR := HD.out.range
    clear hA
    go_wp2_with (first
      | (refine wpList_load_mid rfl 52 (.tmp 1) rfl w.heap.size 0 rfl (lstD d) _ hR Tryz.underlying52 rfl info_date ?_)
      | (go_at_call 49; refine (HC.out _ HD.out.below).mono ?_; rintro _ w1 ⟨rfl, hb⟩; have hX := HF.out.later hb; have f0 := hX.cell 0 _ rfl; have f1 := hX.cell 1 _ rfl; have f2 := hX.cell 2 _ rfl; have f3 := hX.cell 3 _ rfl; have z0 := hX.free 0 (by unfold lstR; simp); have z1 := hX.free 1 (by unfold lstR; simp); have z2 := hX.free 2 (by unfold lstR; simp); have z3 := hX.free 3 (by unfold lstR; simp)))
    have hY := hX.setAll (lstR 0 0) rfl
    exact bodyPost_ret (v := .tuple #[rv 0 0, .int .i64 E]) (results_two Tryz.results23 _ rfl rfl (run_loadVar_mid _ _ 0 26 (lstR 0 0) _ hY.range Tryz.underlying26 rfl info_run)) rfl ⟨rfl, hY.below⟩
  rw [if_neg (by simpa using c)] at hE
  rw [c] at HC
  cases hmk : d.msk
  case true =>
    rw [hmk, if_pos rfl] at hE
    rw [if_pos (by omega)] at hLO hHI
    rw [hmk] at HMK
    subst hLO hHI hE
    clear hk hs hy ha m0 m1 m2 c hmk
    go_enter Tryz.func23, Tryz.ntmps23
    go_upto_region 1 with (fail)
    generalize World.alloc _ _ = W0 at hA ⊢
    have HD : Hid (Rw w.heap.size (lstD d) w W0) := Lib.hid hA.1
    have HF : Hid (Rw (w.heap.size + 1) (lstR 0 0) w W0) := Lib.hid hA.2
    have hR := HD.out.range
    clear hA
    go_wp2_with (first
      | (refine wpList_load_mid rfl 52 (.tmp 1) rfl w.heap.size 0 rfl (lstD d) _ hR Tryz.underlying52 rfl info_date ?_)
      | (go_at_call 49; refine (HC.out _ HD.out.below).mono ?_; rintro _ w1 ⟨rfl, hb⟩; replace HD := Lib.hid (HD.out.later hb); replace HF := Lib.hid (HF.out.later hb); clear hR hb; have hR := HD.out.range)
      | (go_at_call 50; refine (HMK.out _).mono ?_; rintro _ w2 ⟨rfl, hb⟩; have hX := HF.out.later hb; have f0 := hX.cell 0 _ rfl; have f1 := hX.cell 1 _ rfl; have f2 := hX.cell 2 _ rfl; have f3 := hX.cell 3 _ rfl; have z0 := hX.free 0 (by unfold lstR; simp); have z1 := hX.free 1 (by unfold lstR; simp); have z2 := hX.free 2 (by unfold lstR; simp); have z3 := hX.free 3 (by unfold lstR; simp)))
    have hY := hX.setAll (lstR 0 0) rfl
    exact bodyPost_ret (v := .tuple #[rv 0 0, .int .i64 1]) (results_two Tryz.results23 _ rfl rfl (run_loadVar_mid _ _ 0 26 (lstR 0 0) _ hY.range Tryz.underlying26 rfl info_run)) rfl ⟨rfl, hY.below⟩
  rw [hmk, if_neg (by decide)] at hE
  rw [if_neg (by omega)] at hLO hHI
  rw [hmk] at HMK
  have hfm := err_zero c
  obtain ⟨hx, hxm, hxd, hsg⟩ := msk_facts hmk
  obtain ⟨hyk, _, hfar⟩ := Dt.yearOk_facts (Dt.form_zero hfm).1
  obtain ⟨n1, n2, n3, n4⟩ := mo_num hfm hxm
  obtain ⟨k1, k2, k3, k4⟩ := da_num hfm hxd
  have hyb := yVal_bd (neg := d.neg) hyk hx
  have HV := Lib.hid (fun W => yValue_any d.neg d.long d.dg d.ex d.sig W hy hyk hx)
  have HN1 := Lib.hid (fun W => uNumber_any d.mo W n1 n2)
  have HN2 := Lib.hid (fun W => uNumber_any d.da W k1 k2)
  have HU := Lib.hid (fun W hb => unit_any d (yVal d.neg d.dg d.ex) (decS d.mo) (decS d.da) W (hk.below (w' := W) hb) hyb.1 hyb.2 (fun h => by
    rcases n4 h with h | ⟨h1, h2, h3⟩
    · exact .inl ⟨h.1, h.2.1⟩
    · exact .inr ⟨h1, h2, far_no hyk hfar (yVal_in hx) h3.symm (by omega)⟩) k4 (fmd hfm))
  have eM : d.mOf (decS d.mo) = decS d.mo := by unfold Dt.mOf; split; rename_i h; exact (dec_empty h).1.symm; rfl
  have eK : d.kOf (decS d.da) = decS d.da := by unfold Dt.kOf; split; rename_i h; exact (dec_empty h).1.symm; rfl
  rw [eM, eK, ← hLO, ← hHI, dtv_eq] at HU
  unfold cvv rv at HU
  unfold yv at HV
  subst hE
  clear hk hs hy ha m0 m1 m2 c hmk hfm hx hxm hxd hsg hyk hfar n1 n2 n3 n4 k1 k2 k3 k4 hyb eM eK hLO hHI
  generalize yVal d.neg d.dg d.ex = yv at *
  generalize decS d.mo = mv at *
  generalize decS d.da = kv at *
  go_enter Tryz.func23, Tryz.ntmps23
  go_upto_region 1 with (fail)
  generalize World.alloc _ _ = W0 at hA ⊢
  have HD : Hid (Rw w.heap.size (lstD d) w W0) := Lib.hid hA.1
  have HF : Hid (Rw (w.heap.size + 1) (lstR 0 0) w W0) := Lib.hid hA.2
  have hR := HD.out.range
  clear hA
  obtain ⟨r0, r1, r2, r3, r4, r5, r6, r7, r8, r9⟩ := HD.out.dcells
  go_upto_region 9 with (first
    | (refine wpList_load_mid rfl 52 (.tmp 1) rfl w.heap.size 0 rfl (lstD d) _ hR Tryz.underlying52 rfl info_date ?_)
    | (go_at_call 49; refine (HC.out _ HD.out.below).mono ?_; rintro _ w1 ⟨rfl, hb⟩; replace HD := Lib.hid (HD.out.later hb); replace HF := Lib.hid (HF.out.later hb); clear hR hb; have hR := HD.out.range)
    | (go_at_call 50; refine (HMK.out _).mono ?_; rintro _ w2 ⟨rfl, hb⟩; replace HD := Lib.hid (HD.out.later hb); replace HF := Lib.hid (HF.out.later hb); clear hR hb; have hR := HD.out.range; clear r0 r1 r2 r3 r4 r5 r6 r7 r8 r9; obtain ⟨r0, r1, r2, r3, r4, r5, r6, r7, r8, r9⟩ := HD.out.dcells)
    | (go_at_call 51; refine (HV.out _).mono ?_; rintro _ w3 ⟨rfl, hb⟩; replace HD := Lib.hid (HD.out.later hb); replace HF := Lib.hid (HF.out.later hb); clear hR hb; have hR := HD.out.range; clear r0 r1 r2 r3 r4 r5 r6 r7 r8 r9; obtain ⟨r0, r1, r2, r3, r4, r5, r6, r7, r8, r9⟩ := HD.out.dcells))
  clear HC HMK HV hR
  unfold lstD at HU
  go_region_with (first
    | (go_at_call 53; first
        | (with_reducible refine (HN1.out _).mono ?_; rintro _ w' ⟨rfl, hb⟩; replace HD := Lib.hid (HD.out.later (by first | exact hb | exact bt (Below.refl _ _).drew hb | exact bt (Below.refl _ _).drew.drew hb | exact bt (Below.refl _ _).drew.drew.drew hb)); replace HF := Lib.hid (HF.out.later (by first | exact hb | exact bt (Below.refl _ _).drew hb | exact bt (Below.refl _ _).drew.drew hb | exact bt (Below.refl _ _).drew.drew.drew hb)); clear hb; clear r0 r1 r2 r3 r4 r5 r6 r7 r8 r9; obtain ⟨r0, r1, r2, r3, r4, r5, r6, r7, r8, r9⟩ := HD.out.dcells)
        | (with_reducible refine (HN2.out _).mono ?_; rintro _ w' ⟨rfl, hb⟩; replace HD := Lib.hid (HD.out.later (by first | exact hb | exact bt (Below.refl _ _).drew hb | exact bt (Below.refl _ _).drew.drew hb | exact bt (Below.refl _ _).drew.drew.drew hb)); replace HF := Lib.hid (HF.out.later (by first | exact hb | exact bt (Below.refl _ _).drew hb | exact bt (Below.refl _ _).drew.drew hb | exact bt (Below.refl _ _).drew.drew.drew hb)); clear hb; clear r0 r1 r2 r3 r4 r5 r6 r7 r8 r9; obtain ⟨r0, r1, r2, r3, r4, r5, r6, r7, r8, r9⟩ := HD.out.dcells))
    | (go_at_call 52; refine (HU.out _ (by first | exact HD.out.below | exact HD.out.below.drew | exact HD.out.below.drew.drew | exact HD.out.below.drew.drew.drew)).mono ?_; rintro _ w' ⟨rfl, hb⟩; have hX := HF.out.later (by first | exact hb | exact bt (Below.refl _ _).drew hb | exact bt (Below.refl _ _).drew.drew hb | exact bt (Below.refl _ _).drew.drew.drew hb); have f0 := hX.cell 0 _ rfl; have f1 := hX.cell 1 _ rfl; have f2 := hX.cell 2 _ rfl; have f3 := hX.cell 3 _ rfl; have z0 := hX.free 0 (by unfold lstR; simp); have z1 := hX.free 1 (by unfold lstR; simp); have z2 := hX.free 2 (by unfold lstR; simp); have z3 := hX.free 3 (by unfold lstR; simp)))
  all_goals (go_wp2_with fail)
  all_goals
    have hY := hX.setAll (lstR LO HI) rfl
    exact bodyPost_ret (v := .tuple #[rv LO HI, .int .i64 0]) (results_two Tryz.results23 _ rfl rfl (run_loadVar_mid _ _ 0 26 (lstR LO HI) _ hY.range Tryz.underlying26 rfl info_run)) rfl ⟨rfl, hY.below⟩
end Bk
end Go.Proofs.YtipjmaimjchckaaGreatDoor

/-! THE WALKS of units.Filled, Precision. -/
set_option linter.unusedSimpArgs false
set_option linter.unusedVariables false
set_option maxRecDepth 100000
namespace Go.Proofs.YtipjmaimjchckaaGreatDoor
open Go.RowKit Go.Lib
namespace Bk
open Un (ba bt ri rb ret2_ii ret2_bi)

/-- What Filled returns: the error, or the days. -/
def Dt.FillR (d : Dt) (y m k lo hi er : Int) : Prop := ((d.err ≠ 0 ∧ er = d.err ∧ lo = 0 ∧ hi = 0) ∨ (d.err = 0 ∧ ¬ (d.sig ≤ 0 ∧ d.Has y m k) ∧ er = 1 ∧ lo = 0 ∧ hi = 0) ∨
    (d.err = 0 ∧ d.sig ≤ 0 ∧ d.Has y m k ∧ er = 0 ∧ lo = unitLo y (d.mOf m) (d.kOf k) ∧ hi = unitHi y (d.mOf m) (d.kOf k)))
def RetFilled (d : Dt) (y m k : Int) (w : World) (e : Ending) (w' : World) : Prop := ∃ lo hi er : Int, d.FillR y m k lo hi er ∧
  e = .returned (.tuple #[rv lo hi, .int .i64 er]) ∧ Below w.heap.size w w'

/-- What is asked of a filling, so that it has a unit. -/
theorem has_ok {d : Dt} {y m k : Int} (h : d.Has y m k) : -10000000000000000 ≤ y ∧ y ≤ 10000000000000000 ∧ (d.mo.size ≠ 0 → (1 ≤ m ∧ m ≤ 12) ∨ (21 ≤ m ∧ m ≤ 41 ∧ sYear y m ≤ 10000000000000000)) ∧ (d.da.size ≠ 0 → 1 ≤ k ∧ k ≤ 31) ∧ (d.mo.size = 0 → d.da.size = 0) := by
  obtain ⟨hc, n, j, ⟨hin, hms, hds, hlen⟩, hm, hk⟩ := h
  have hf := cerr_form hc
  obtain ⟨hyk, _, hfar⟩ := Dt.yearOk_facts (Dt.form_zero hf).1
  have hb := Dt.in_bd hyk hin
  have hbd : d.season = 0 ∨ (21 ≤ d.season ∧ d.season ≤ 41) := seasonC_bd d.mo
  refine ⟨hb.1, hb.2, fun h0 => ?_, fun h0 => ?_, fmd hf⟩
  · obtain rfl := hm.resolve_left h0
    by_cases hs : d.season = 0
    · rw [Dt.ms_fits hs h0, mem_fitsL] at hms
      exact .inl (by omega)
    · rw [Dt.ms_season hs, List.mem_singleton] at hms
      exact .inr ⟨by omega, by omega, far_no hyk hfar hin hms hs⟩
  · obtain rfl := hk.resolve_left h0
    rw [Dt.ds_fits h0, mem_fitsL] at hds
    omega

set_option maxHeartbeats 4000000 in
theorem uFilled_any (d : Dt) (y m k : Int) (w : World) (hk : WOk w) (hs : d.mo.size ≤ 1000) (hy : d.dg.size ≤ 1000) (m0 : 0 ≤ d.m0) (m1 : 0 ≤ d.m1) (m2 : 0 ≤ d.m2)
    (y0 : -9223372036854775808 ≤ y) (y1 : y < 9223372036854775808) :
    Calls Tryz.prog 28 #[dtv d, cvv y m k] w (RetFilled d y m k w) := by
  have hD : Rw w.heap.size (lstD d) w _ := Rw.fresh (Below.refl _ _) (lstD d) 52
  have hD2 := Rw.fresh hD.below (lstC y m k) 56
  have hD3 := Rw.fresh hD2.below (lstR 0 0) 26
  simp only [alloc_size] at hD2 hD3
  have hA : _ ∧ _ ∧ _ := ⟨(hD.later (ba (Below.refl _ _) (.cells (lstC y m k).toArray 56))).later (ba (Below.refl _ _) (.cells (lstR 0 0).toArray 26)), hD2.later (ba (Below.refl _ _) (.cells (lstR 0 0).toArray 26)), hD3⟩
  clear hD hD2 hD3
  have HC := Lib.hid (fun W hb => fCheck_any d W (hk.below (w' := W) hb) hs hy m0 m1 m2)
  have HH := Lib.hid (fun W hb => fHas_any d y m k W (hk.below (w' := W) hb) hs hy m0 m1 m2 y0 y1)
  have HU := Lib.hid (fun (h : d.Has y m k) W hb => unit_any d y m k W (hk.below (w' := W) hb) (has_ok h).1 (has_ok h).2.1 (has_ok h).2.2.1 (has_ok h).2.2.2.1 (has_ok h).2.2.2.2)
  rw [dtv_eq] at HC HH HU
  unfold cvv at HH HU
  clear hk hs hy m0 m1 m2
  unfold dtv cvv
  unfold lstD lstC lstR at hA
  by_cases c : d.err = 0
  case neg =>
    have HQ : Hid (d.FillR y m k 0 0 d.err) := Lib.hid (.inl ⟨c, rfl, rfl, rfl⟩)
    generalize d.err = er at *
    clear HH HU
    go_enter Tryz.func28, Tryz.ntmps28
    go_upto_region 1 with (fail)
    generalize World.alloc _ _ = W0 at hA ⊢
    have HD : Hid (Rw w.heap.size (lstD d) w W0) := Lib.hid hA.1
    have HE : Hid (Rw (w.heap.size + 1) (lstC y m k) w W0) := Lib.hid hA.2.1
    have HF : Hid (Rw (w.heap.size + 1 + 1) (lstR 0 0) w W0) := Lib.hid hA.2.2
    have hR := HD.out.range
    clear hA
    go_wp2_with (first
      | (refine wpList_load_mid rfl 52 (.tmp 2) rfl w.heap.size 0 rfl (lstD d) _ hR Tryz.underlying52 rfl info_date ?_)
      | (go_at_call 49; refine (HC.out _ HD.out.below).mono ?_; rintro _ w1 ⟨rfl, hb⟩; have hX := HF.out.later hb; have f0 := hX.cell 0 _ rfl; have f1 := hX.cell 1 _ rfl; have f2 := hX.cell 2 _ rfl; have f3 := hX.cell 3 _ rfl; have z0 := hX.free 0 (by unfold lstR; simp); have z1 := hX.free 1 (by unfold lstR; simp); have z2 := hX.free 2 (by unfold lstR; simp); have z3 := hX.free 3 (by unfold lstR; simp)))
    have hY := hX.setAll (lstR 0 0) rfl
    exact bodyPost_ret (v := .tuple #[rv 0 0, .int .i64 er]) (results_two Tryz.results28 _ rfl rfl (run_loadVar_mid _ _ 0 26 (lstR 0 0) _ hY.range Tryz.underlying26 rfl info_run)) rfl ⟨_, _, _, HQ.out, rfl, hY.below⟩
  rw [c] at HC
  by_cases hg : d.sig ≤ 0
  case neg =>
    have HQ : Hid (d.FillR y m k 0 0 1) := Lib.hid (.inr (.inl ⟨c, fun h => hg h.1, rfl, rfl, rfl⟩))
    clear HH HU c
    have hg1 : 0 < d.sig := by omega
    clear hg
    go_enter Tryz.func28, Tryz.ntmps28
    go_upto_region 1 with (fail)
    generalize World.alloc _ _ = W0 at hA ⊢
    have HD : Hid (Rw w.heap.size (lstD d) w W0) := Lib.hid hA.1
    have HE : Hid (Rw (w.heap.size + 1) (lstC y m k) w W0) := Lib.hid hA.2.1
    have HF : Hid (Rw (w.heap.size + 1 + 1) (lstR 0 0) w W0) := Lib.hid hA.2.2
    have hR := HD.out.range
    clear hA
    go_wp2_with (first
      | (refine wpList_load_mid rfl 52 (.tmp 2) rfl w.heap.size 0 rfl (lstD d) _ hR Tryz.underlying52 rfl info_date ?_)
      | (go_at_call 49; refine (HC.out _ HD.out.below).mono ?_; rintro _ w1 ⟨rfl, hb⟩; have hX := HF.out.later hb; have f0 := hX.cell 0 _ rfl; have f1 := hX.cell 1 _ rfl; have f2 := hX.cell 2 _ rfl; have f3 := hX.cell 3 _ rfl; have z0 := hX.free 0 (by unfold lstR; simp); have z1 := hX.free 1 (by unfold lstR; simp); have z2 := hX.free 2 (by unfold lstR; simp); have z3 := hX.free 3 (by unfold lstR; simp); replace HD := Lib.hid (HD.out.later hb); replace HE := Lib.hid (HE.out.later hb); replace HF := Lib.hid (HF.out.later hb); clear hR hb; have hR := HD.out.range; obtain ⟨q0, q1, q2, q3, q4, q5, q6, q7, q8, q9⟩ := HD.out.dcells; have e0 := HE.out.cell 0 _ rfl; have e1 := HE.out.cell 1 _ rfl; have e2 := HE.out.cell 2 _ rfl))
    have hY := hX.setAll (lstR 0 0) rfl
    exact bodyPost_ret (v := .tuple #[rv 0 0, .int .i64 1]) (results_two Tryz.results28 _ rfl rfl (run_loadVar_mid _ _ 0 26 (lstR 0 0) _ hY.range Tryz.underlying26 rfl info_run)) rfl ⟨_, _, _, HQ.out, rfl, hY.below⟩
  have hg1 : ¬ 0 < d.sig := by omega
  have HCc := Lib.hid c
  have HG := Lib.hid hg
  clear c hg
  by_cases hh : d.Has y m k
  case neg =>
    have HB2 : Hid (∀ W, Below w.heap.size w W → Calls Tryz.prog 55 #[.agg (lstD d).toArray, .agg #[.int .i64 y, .int .i64 m, .int .i64 k]] W fun r w' => r = .returned (.bool false) ∧ Below W.heap.size W w') := Lib.hid (fun W hb => by
      refine (HH.out W hb).mono ?_; rintro e w' ⟨b, hb0, rfl, hb⟩
      cases b
      · exact ⟨rfl, hb⟩
      · exact absurd (hb0.1 rfl) hh)
    have HQ : Hid (d.FillR y m k 0 0 1) := Lib.hid (.inr (.inl ⟨HCc.out, fun h => hh h.2, rfl, rfl, rfl⟩))
    clear HH HU hh
    go_enter Tryz.func28, Tryz.ntmps28
    go_upto_region 1 with (fail)
    generalize World.alloc _ _ = W0 at hA ⊢
    have HD : Hid (Rw w.heap.size (lstD d) w W0) := Lib.hid hA.1
    have HE : Hid (Rw (w.heap.size + 1) (lstC y m k) w W0) := Lib.hid hA.2.1
    have HF : Hid (Rw (w.heap.size + 1 + 1) (lstR 0 0) w W0) := Lib.hid hA.2.2
    have hR := HD.out.range
    clear hA
    go_wp2_with (first
      | (refine wpList_load_mid rfl 52 (.tmp 2) rfl w.heap.size 0 rfl (lstD d) _ hR Tryz.underlying52 rfl info_date ?_)
      | (refine wpList_load_mid rfl 56 (.tmp 3) rfl (w.heap.size + 1) 0 rfl (lstC y m k) _ HE.out.range Tryz.underlying56 rfl info_civil ?_)
      | (go_at_call 49; refine (HC.out _ HD.out.below).mono ?_; rintro _ w1 ⟨rfl, hb⟩; replace HD := Lib.hid (HD.out.later hb); replace HE := Lib.hid (HE.out.later hb); replace HF := Lib.hid (HF.out.later hb); clear hR hb; have hR := HD.out.range; obtain ⟨q0, q1, q2, q3, q4, q5, q6, q7, q8, q9⟩ := HD.out.dcells; have e0 := HE.out.cell 0 _ rfl; have e1 := HE.out.cell 1 _ rfl; have e2 := HE.out.cell 2 _ rfl)
      | (go_at_call 55; refine (HB2.out _ HD.out.below).mono ?_; rintro _ w2 ⟨rfl, hb⟩; replace HD := Lib.hid (HD.out.later hb); replace HE := Lib.hid (HE.out.later hb); replace HF := Lib.hid (HF.out.later hb); clear hR hb; have hR := HD.out.range; obtain ⟨q0, q1, q2, q3, q4, q5, q6, q7, q8, q9⟩ := HD.out.dcells; have e0 := HE.out.cell 0 _ rfl; have e1 := HE.out.cell 1 _ rfl; have e2 := HE.out.cell 2 _ rfl; have hX := HF.out; have f0 := hX.cell 0 _ rfl; have f1 := hX.cell 1 _ rfl; have f2 := hX.cell 2 _ rfl; have f3 := hX.cell 3 _ rfl; have z0 := hX.free 0 (by unfold lstR; simp); have z1 := hX.free 1 (by unfold lstR; simp); have z2 := hX.free 2 (by unfold lstR; simp); have z3 := hX.free 3 (by unfold lstR; simp)))
    have hY := hX.setAll (lstR 0 0) rfl
    exact bodyPost_ret (v := .tuple #[rv 0 0, .int .i64 1]) (results_two Tryz.results28 _ rfl rfl (run_loadVar_mid _ _ 0 26 (lstR 0 0) _ hY.range Tryz.underlying26 rfl info_run)) rfl ⟨_, _, _, HQ.out, rfl, hY.below⟩
  case pos =>
    have HB2 : Hid (∀ W, Below w.heap.size w W → Calls Tryz.prog 55 #[.agg (lstD d).toArray, .agg #[.int .i64 y, .int .i64 m, .int .i64 k]] W fun r w' => r = .returned (.bool true) ∧ Below W.heap.size W w') := Lib.hid (fun W hb => by
      refine (HH.out W hb).mono ?_; rintro e w' ⟨b, hb0, rfl, hb⟩
      cases b
      · exact absurd (hb0.2 hh) (by decide)
      · exact ⟨rfl, hb⟩)
    have HU2 := Lib.hid (fun W hb => HU.out hh W hb)
    have HQ : Hid (d.FillR y m k (unitLo y (d.mOf m) (d.kOf k)) (unitHi y (d.mOf m) (d.kOf k)) 0) := Lib.hid (.inr (.inr ⟨HCc.out, HG.out, hh, rfl, rfl, rfl⟩))
    clear HU HH hh
    generalize unitLo y (d.mOf m) (d.kOf k) = lo at *
    generalize unitHi y (d.mOf m) (d.kOf k) = hi at *
    unfold rv at HU2
    go_enter Tryz.func28, Tryz.ntmps28
    go_upto_region 1 with (fail)
    generalize World.alloc _ _ = W0 at hA ⊢
    have HD : Hid (Rw w.heap.size (lstD d) w W0) := Lib.hid hA.1
    have HE : Hid (Rw (w.heap.size + 1) (lstC y m k) w W0) := Lib.hid hA.2.1
    have HF : Hid (Rw (w.heap.size + 1 + 1) (lstR 0 0) w W0) := Lib.hid hA.2.2
    have hR := HD.out.range
    clear hA
    go_wp2_with (first
      | (refine wpList_load_mid rfl 52 (.tmp 2) rfl w.heap.size 0 rfl (lstD d) _ hR Tryz.underlying52 rfl info_date ?_)
      | (refine wpList_load_mid rfl 56 (.tmp 3) rfl (w.heap.size + 1) 0 rfl (lstC y m k) _ HE.out.range Tryz.underlying56 rfl info_civil ?_)
      | (go_at_call 49; refine (HC.out _ HD.out.below).mono ?_; rintro _ w1 ⟨rfl, hb⟩; replace HD := Lib.hid (HD.out.later hb); replace HE := Lib.hid (HE.out.later hb); replace HF := Lib.hid (HF.out.later hb); clear hR hb; have hR := HD.out.range; obtain ⟨q0, q1, q2, q3, q4, q5, q6, q7, q8, q9⟩ := HD.out.dcells; have e0 := HE.out.cell 0 _ rfl; have e1 := HE.out.cell 1 _ rfl; have e2 := HE.out.cell 2 _ rfl)
      | (go_at_call 55; refine (HB2.out _ HD.out.below).mono ?_; rintro _ w2 ⟨rfl, hb⟩; replace HD := Lib.hid (HD.out.later hb); replace HE := Lib.hid (HE.out.later hb); replace HF := Lib.hid (HF.out.later hb); clear hR hb; have hR := HD.out.range; obtain ⟨q0, q1, q2, q3, q4, q5, q6, q7, q8, q9⟩ := HD.out.dcells; have e0 := HE.out.cell 0 _ rfl; have e1 := HE.out.cell 1 _ rfl; have e2 := HE.out.cell 2 _ rfl)
      | (go_at_call 52; refine (HU2.out _ HD.out.below).mono ?_; rintro _ w1 ⟨rfl, hb⟩; have hX := HF.out.later hb; have f0 := hX.cell 0 _ rfl; have f1 := hX.cell 1 _ rfl; have f2 := hX.cell 2 _ rfl; have f3 := hX.cell 3 _ rfl; have z0 := hX.free 0 (by unfold lstR; simp); have z1 := hX.free 1 (by unfold lstR; simp); have z2 := hX.free 2 (by unfold lstR; simp); have z3 := hX.free 3 (by unfold lstR; simp)))
    have hY := hX.setAll (lstR lo hi) rfl
    exact bodyPost_ret (v := .tuple #[rv lo hi, .int .i64 0]) (results_two Tryz.results28 _ rfl rfl (run_loadVar_mid _ _ 0 26 (lstR lo hi) _ hY.range Tryz.underlying26 rfl info_run)) rfl ⟨_, _, _, HQ.out, rfl, hY.below⟩

/-- The precision of a right date. -/
def Dt.prec (d : Dt) : Int := if d.da.size ≠ 0 then 3 else if d.mo.size = 0 then 1 else if d.season ≠ 0 then 0 else 2
theorem dig_nox {s : ByteArray} (h : allB isDig s = true) : hasB 88 s = false := (dig_iff (dig_digX h)).2 h
theorem mo_byte {d : Dt} (h : d.form = 0) (h2 : d.mo.size ≠ 0) : (d.season ≠ 0 ∧ 50 ≤ byt d.mo 0 ∧ byt d.mo 0 ≤ 57) ∨ (d.season = 0 ∧ (byt d.mo 0 = 88 ∨ byt d.mo 0 < 50)) := by
  rcases form_facts h with ⟨h1, _, _⟩ | ⟨h1, _, h3, _⟩ | ⟨_, h1, _⟩
  · refine .inl ⟨h1, ?_⟩
    have h1 : seasonC d.mo ≠ 0 := h1
    unfold seasonC at h1
    split at h1
    · omega
    · exact absurd rfl h1
  · obtain ⟨n, n1, n2, ha⟩ := (someA_iff _ _).1 h3
    unfold agrB at ha
    simp at ha
    refine .inr ⟨h1, ?_⟩
    rcases ha.2.1 with h | h
    · exact .inl h
    · exact .inr (by omega)
  · exact absurd h1 h2

set_option maxHeartbeats 4000000 in
theorem uPrec_any (d : Dt) (w : World) (hk : WOk w) (hs : d.mo.size ≤ 1000) (hy : d.dg.size ≤ 1000) (m0 : 0 ≤ d.m0) (m1 : 0 ≤ d.m1) (m2 : 0 ≤ d.m2) :
    Calls Tryz.prog 27 #[dtv d] w fun r w' => r = .returned (.tuple #[.int .u8 (if d.err = 0 then d.prec else 0), .int .i64 d.err]) ∧ Below w.heap.size w w' := by
  have hD : Rw w.heap.size (lstD d) w _ := Rw.fresh (Below.refl _ _) (lstD d) 52
  have HC := Lib.hid (fun W hb => fCheck_any d W (hk.below (w' := W) hb) hs hy m0 m1 m2)
  rw [dtv_eq] at HC
  obtain ⟨R, hR⟩ : ∃ R, R = if d.err = 0 then d.prec else 0 := ⟨_, rfl⟩
  rw [← hR]
  unfold Dt.prec at hR
  unfold dtv
  unfold lstD at hD
  by_cases c : d.err = 0
  case neg =>
    rw [if_neg c] at hR
    clear hk hs hy m0 m1 m2
    generalize d.err = er at *
    subst hR
    go_enter Tryz.func27, Tryz.ntmps27
    go_upto_region 1 with (fail)
    generalize World.alloc _ _ = W0 at hD ⊢
    have HD : Hid (Rw w.heap.size (lstD d) w W0) := Lib.hid hD
    clear hD
    have hR := HD.out.range
    go_wp2_with (first
      | (refine wpList_load_mid rfl 52 (.tmp 1) rfl w.heap.size 0 rfl (lstD d) _ hR Tryz.underlying52 rfl info_date ?_)
      | (go_at_call 49; refine (HC.out _ HD.out.below).mono ?_; rintro _ w1 ⟨rfl, hb⟩))
    go_ret2
    exact ⟨rfl, bt HD.out.below hb⟩
  rw [if_pos c] at hR
  have hf := err_zero c
  rw [c] at HC ⊢
  have hxc : hasB 88 d.mo = false → d.mo.size ≤ 2 ∧ allB isDig d.mo = true ∧ (d.mo.size ≠ 0 → (1 ≤ decS d.mo ∧ decS d.mo ≤ 12 ∧ d.season = 0) ∨ (21 ≤ decS d.mo ∧ decS d.mo ≤ 41 ∧ d.season = decS d.mo)) := fun h => by
    obtain ⟨a, b, _, e⟩ := mo_num hf h; exact ⟨a, b, e⟩
  have hxs : hasB 88 d.mo = true → d.season = 0 := fun h => by
    by_cases c : d.season = 0
    · exact c
    · have := dig_nox (season_dig c).2.1; rw [this] at h; cases h
  have HK : ∀ W, Calls Tryz.prog 54 #[.string d.mo, .string ⟨#[88]⟩] W fun e w' => e = .returned (.bool (hasB 88 d.mo)) ∧ w' = W := by
    intro W
    have := Tryz.strings_Contains_one d.mo 88 W
    rw [indexByte_has] at this
    exact this
  clear hk hs hy m0 m1 m2 hf c
  rcases emp_cases d.da with ⟨c1, x1⟩ | ⟨c1, x1⟩
  case inr =>
    rw [if_pos c1] at hR
    subst hR
    clear hxc hxs HK c1
    go_enter Tryz.func27, Tryz.ntmps27
    go_upto_region 1 with (fail)
    generalize World.alloc _ _ = W0 at hD ⊢
    have HD : Hid (Rw w.heap.size (lstD d) w W0) := Lib.hid hD
    clear hD
    have hR := HD.out.range
    go_wp2_with (first
      | (refine wpList_load_mid rfl 52 (.tmp 1) rfl w.heap.size 0 rfl (lstD d) _ hR Tryz.underlying52 rfl info_date ?_)
      | (go_at_call 49; refine (HC.out _ HD.out.below).mono ?_; rintro _ w1 ⟨rfl, hb⟩; replace HD := Lib.hid (HD.out.later hb); clear hR hb; obtain ⟨q0, q1, q2, q3, q4, q5, q6, q7, q8, q9⟩ := HD.out.dcells))
    go_ret2
    exact ⟨rfl, HD.out.below⟩
  rw [if_neg (by simpa using c1)] at hR
  rcases emp_cases d.mo with ⟨c0, x0⟩ | ⟨c0, x0⟩
  case inl =>
    rw [if_pos c0] at hR
    subst hR
    clear hxc hxs HK c1 c0
    go_enter Tryz.func27, Tryz.ntmps27
    go_upto_region 1 with (fail)
    generalize World.alloc _ _ = W0 at hD ⊢
    have HD : Hid (Rw w.heap.size (lstD d) w W0) := Lib.hid hD
    clear hD
    have hR := HD.out.range
    go_wp2_with (first
      | (refine wpList_load_mid rfl 52 (.tmp 1) rfl w.heap.size 0 rfl (lstD d) _ hR Tryz.underlying52 rfl info_date ?_)
      | (go_at_call 49; refine (HC.out _ HD.out.below).mono ?_; rintro _ w1 ⟨rfl, hb⟩; replace HD := Lib.hid (HD.out.later hb); clear hR hb; obtain ⟨q0, q1, q2, q3, q4, q5, q6, q7, q8, q9⟩ := HD.out.dcells))
    go_ret2
    exact ⟨rfl, HD.out.below⟩
  rw [if_neg c0] at hR
  cases hx : hasB 88 d.mo
  case true =>
    rw [hx] at HK
    replace HK := Lib.hid HK
    rw [if_neg (by simpa using hxs hx)] at hR
    subst hR
    clear hxc hxs c1 c0 hx
    go_enter Tryz.func27, Tryz.ntmps27
    go_upto_region 1 with (fail)
    generalize World.alloc _ _ = W0 at hD ⊢
    have HD : Hid (Rw w.heap.size (lstD d) w W0) := Lib.hid hD
    clear hD
    have hR := HD.out.range
    go_wp2_with (first
      | (refine wpList_load_mid rfl 52 (.tmp 1) rfl w.heap.size 0 rfl (lstD d) _ hR Tryz.underlying52 rfl info_date ?_)
      | (go_at_call 54; with_reducible refine (HK.out _).mono ?_; rintro _ w' ⟨rfl, rfl⟩)
      | (go_at_call 49; refine (HC.out _ HD.out.below).mono ?_; rintro _ w1 ⟨rfl, hb⟩; replace HD := Lib.hid (HD.out.later hb); clear hR hb; obtain ⟨q0, q1, q2, q3, q4, q5, q6, q7, q8, q9⟩ := HD.out.dcells))
    go_ret2
    exact ⟨rfl, HD.out.below⟩
  case false =>
    rw [hx] at HK
    replace HK := Lib.hid HK
    obtain ⟨n1, n2, n3⟩ := hxc hx
    have HN := Lib.hid (fun W => uNumber_any d.mo W n1 n2)
    have HR : Hid ((12 < decS d.mo → R = 0) ∧ (decS d.mo ≤ 12 → R = 2)) := Lib.hid (by
      rcases n3 c0 with h | h
      · rw [if_neg (by omega)] at hR; omega
      · rw [if_pos (by omega)] at hR; omega)
    clear hxc hxs c1 c0 hx n1 n2 n3 hR
    generalize decS d.mo = n at *
    go_enter Tryz.func27, Tryz.ntmps27
    go_upto_region 1 with (fail)
    generalize World.alloc _ _ = W0 at hD ⊢
    have HD : Hid (Rw w.heap.size (lstD d) w W0) := Lib.hid hD
    clear hD
    have hR := HD.out.range
    go_wp2_with (first
      | (refine wpList_load_mid rfl 52 (.tmp 1) rfl w.heap.size 0 rfl (lstD d) _ hR Tryz.underlying52 rfl info_date ?_)
      | (go_at_call 54; with_reducible refine (HK.out _).mono ?_; rintro _ w' ⟨rfl, rfl⟩)
      | (go_at_call 53; refine (HN.out _).mono ?_; rintro _ w1 ⟨rfl, hb⟩; replace HD := Lib.hid (HD.out.later hb); clear hb)
      | (go_at_call 49; refine (HC.out _ HD.out.below).mono ?_; rintro _ w1 ⟨rfl, hb⟩; replace HD := Lib.hid (HD.out.later hb); clear hR hb; obtain ⟨q0, q1, q2, q3, q4, q5, q6, q7, q8, q9⟩ := HD.out.dcells))
    all_goals go_ret2
    all_goals have h := HR.out
    all_goals first
      | exact ⟨by rw [h.1 (by omega)]; rfl, HD.out.below⟩
      | exact ⟨by rw [h.2 (by omega)]; rfl, HD.out.below⟩

theorem rPrec_any (d : Dt) (w : World) (hf : d.form = 0) :
    Calls Tryz.prog 30 #[dtv d] w fun r w' => r = .returned (.int .i64 d.prec) ∧ Below w.heap.size w w' := by
  have hD := Dm.new d w 52
  obtain ⟨R, hR⟩ : ∃ R, R = d.prec := ⟨_, rfl⟩
  rw [← hR]
  unfold Dt.prec at hR
  have hb := mo_byte hf
  unfold dtv
  rcases emp_cases d.da with ⟨c1, x1⟩ | ⟨c1, x1⟩
  case inr =>
    rw [if_pos c1] at hR
    subst hR
    clear hb c1
    go_enter Tryz.func30, Tryz.ntmps30
    go_upto_region 1 with (fail)
    generalize World.alloc _ _ = W0 at hD ⊢
    obtain ⟨q0, q1, q2, q3, q4, q5, q6, q7, q8, q9, qB⟩ := id hD
    go_wp2
    go_ret
    exact ⟨rfl, hD.below⟩
  rw [if_neg (by simpa using c1)] at hR
  rcases emp_cases d.mo with ⟨c0, x0⟩ | ⟨c0, x0⟩
  case inl =>
    rw [if_pos c0] at hR
    subst hR
    clear hb c1 c0
    go_enter Tryz.func30, Tryz.ntmps30
    go_upto_region 1 with (fail)
    generalize World.alloc _ _ = W0 at hD ⊢
    obtain ⟨q0, q1, q2, q3, q4, q5, q6, q7, q8, q9, qB⟩ := id hD
    go_wp2
    go_ret
    exact ⟨rfl, hD.below⟩
  rw [if_neg c0] at hR
  have l0 : 0 < d.mo.size := by omega
  have hb2 := hb c0
  rw [byt_get d.mo 0 l0] at hb2
  have HR : Hid ((50 ≤ ((d.mo[0]'l0).toNat : Int) ∧ ((d.mo[0]'l0).toNat : Int) ≤ 57 → R = 0) ∧ (((d.mo[0]'l0).toNat : Int) < 50 ∨ 57 < ((d.mo[0]'l0).toNat : Int) → R = 2)) := Lib.hid (by
    rcases hb2 with h | h
    · rw [if_pos h.1] at hR; omega
    · rw [if_neg (by omega)] at hR; omega)
  clear hb hb2 c1 c0 hR
  go_enter Tryz.func30, Tryz.ntmps30
  go_upto_region 1 with (fail)
  generalize World.alloc _ _ = W0 at hD ⊢
  obtain ⟨q0, q1, q2, q3, q4, q5, q6, q7, q8, q9, qB⟩ := id hD
  go_wp2
  all_goals go_ret
  all_goals refine ⟨ri ?_, hD.below⟩
  all_goals have h := HR.out
  all_goals (try simp only [beq_iff_eq, bne_iff_ne, bne_eq_false_iff_eq, beq_eq_false_iff_ne, decide_eq_true_eq, decide_eq_false_iff_not, Bool.not_eq_true, Bool.and_eq_true, Bool.or_eq_true, ne_eq] at *)
  all_goals omega
end Bk
end Go.Proofs.YtipjmaimjchckaaGreatDoor

