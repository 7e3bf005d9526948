/- PLAIN LAW: two digits; right years by counts of their bytes; the least and the greatest number of a mask. -/
import Derived.Test.YtipjmaimjchckaaGreatDoorNA
import Derived.Test.YtipjmaimjchckaaGreatDoorNB
import Derived.Test.YtipjmaimjchckaaGreatDoorNE
/-! PLAIN LAW: two digits; right years by counts of their bytes; the least and the greatest number of a mask. -/
set_option linter.unusedSimpArgs false
set_option linter.unusedVariables false
namespace Go.Proofs.YtipjmaimjchckaaGreatDoor
namespace Bk

theorem byt_list {s : ByteArray} {l : List UInt8} (h : s.data.toList = l) (i : Nat) : byt s i = ((l.getD i 0).toNat : Int) := by unfold byt; rw [h]
theorem ba_ext {s t : ByteArray} (h : s.data.toList = t.data.toList) : s = t := by
  cases s with | mk a => cases t with | mk b => exact congrArg _ (Array.ext' h)
theorem toList_beq (s t : ByteArray) : (s.toList == t.toList) = decide (s = t) := by
  rw [ByteArray.toList_eq, ByteArray.toList_eq, Bool.eq_iff_iff, beq_iff_eq, decide_eq_true_iff]
  exact ⟨fun h => ba_ext h, fun h => by rw [h]⟩

/-- The two digits of a number. -/
def twoS (n : Nat) : ByteArray := ⟨#[UInt8.ofNat (48 + n / 10), UInt8.ofNat (48 + n % 10)]⟩
theorem twoS_size (n : Nat) : (twoS n).size = 2 := rfl
theorem twoS_0 {n : Nat} (h : n ≤ 99) : byt (twoS n) 0 = 48 + (n : Int) / 10 := by
  show ((UInt8.ofNat (48 + n / 10)).toNat : Int) = _
  rw [UInt8.toNat_ofNat']
  omega
theorem twoS_1 {n : Nat} (h : n ≤ 99) : byt (twoS n) 1 = 48 + (n : Int) % 10 := by
  show ((UInt8.ofNat (48 + n % 10)).toNat : Int) = _
  rw [UInt8.toNat_ofNat']
  omega
theorem twoS_eq {s : ByteArray} {n : Nat} (h : n ≤ 99) : s = twoS n ↔ (s.size = 2 ∧ byt s 0 = 48 + (n : Int) / 10 ∧ byt s 1 = 48 + (n : Int) % 10) := by
  constructor
  · rintro rfl
    exact ⟨rfl, twoS_0 h, twoS_1 h⟩
  · rintro ⟨h2, h0, h1⟩
    obtain ⟨a, b, e, e0, e1⟩ := two_list h2
    apply ba_ext
    rw [e]
    show [a, b] = [_, _]
    have ha : a = UInt8.ofNat (48 + n / 10) := by apply UInt8.toNat.inj; rw [UInt8.toNat_ofNat']; omega
    have hb : b = UInt8.ofNat (48 + n % 10) := by apply UInt8.toNat.inj; rw [UInt8.toNat_ofNat']; omega
    rw [ha, hb]
theorem twoS_season {s : ByteArray} {n : Nat} (h0 : 21 ≤ n) (h1 : n ≤ 41) : s = twoS n ↔ seasonC s = n := by
  rw [twoS_eq (by omega)]
  unfold seasonC
  constructor
  · rintro ⟨a, b, c⟩
    rw [if_pos (by omega)]
    omega
  · intro h
    split at h
    · omega
    · omega
theorem two_cat : ∀ n : Nat, n < 100 → (digS.extract (n / 10) (n / 10 + 1) ++ digS.extract (n % 10) (n % 10 + 1)) = twoS n := by decide

/-- What layer 14's reference says of a year, by counts. -/
def YF (neg long : Bool) (D X Z sz b0 ex sig m R : Int) : Prop :=
  (D + X ≠ sz ∨ sig < 0 → R = 0) ∧
  (D + X = sz → 0 ≤ sig → long = false → (sz ≠ 4 ∨ ex ≠ 0 ∨ (neg = true ∧ Z = 4) ∨ 4 < sig ∨ (0 < sig ∧ 0 < X)) → R = 0) ∧
  (D + X = sz → 0 ≤ sig → long = false → sz = 4 → ex = 0 → (neg = true → Z ≠ 4) → sig ≤ 4 → (sig ≤ 0 ∨ X ≤ 0) → R = 1) ∧
  (D + X = sz → 0 ≤ sig → long = true → (0 < X ∨ D < 1 ∨ 17 < D ∨ b0 = 48 ∨ ex < 0 ∨ 16 < ex ∨ (ex = 0 ∧ D < 5) ∨ D + ex < sig) → R = 0) ∧
  (D + X = sz → 0 ≤ sig → long = true → X ≤ 0 → 1 ≤ D → D ≤ 17 → b0 ≠ 48 → 0 ≤ ex → ex ≤ 16 → (ex ≠ 0 ∨ 5 ≤ D) → sig ≤ D + ex → (m ≤ 10000000000000000 → R = 1) ∧ (10000000000000000 < m → R = 0))

theorem yF (neg long : Bool) (s : ByteArray) (ex sig : Int) : YF neg long (cntB 48 57 s) (cntB 88 88 s) (cntB 48 48 s) s.size (byt s 0) ex sig (magV s ex) (if yOk neg long s ex sig then 1 else 0) := by
  have hd := digX_iff s
  have hx := x_iff s
  have hz := z_iff s
  have hp := cntB_le 88 88 s
  have hdd : allB isDigX s = true → (hasB 88 s = false ↔ allB isDig s = true) := fun h => dig_iff h
  have hdx : allB isDig s = true → allB isDigX s = true := fun h => dig_digX h
  generalize cntB 48 57 s = D at *
  generalize cntB 88 88 s = X at *
  generalize cntB 48 48 s = Z at *
  have no : ∀ {b : Bool}, b = false → (if b then (1 : Int) else 0) = 0 := fun h => by rw [h]; rfl
  have yes : ∀ {b : Bool}, b = true → (if b then (1 : Int) else 0) = 1 := fun h => by rw [h]; rfl
  refine ⟨fun h => no ?_, fun h1 h2 h3 h => no ?_, fun h1 h2 h3 h4 h5 h6 h7 h8 => yes ?_, fun h1 h2 h3 h => no ?_, fun h1 h2 h3 h4 h5 h6 h7 h8 h9 h10 h11 => ?_⟩
  · rw [Bool.eq_false_iff]
    intro hk
    cases long
    · obtain ⟨a1, a2, a3, a4, a5, a6, a7⟩ := yOk_short hk
      have := hd.2 a2
      omega
    · obtain ⟨a1, a2, a3, a4, a5, a6, a7, a8, a9⟩ := yOk_long hk
      have := hd.2 (hdx a3)
      omega
  · subst h3
    rw [Bool.eq_false_iff]
    intro hk
    obtain ⟨a1, a2, a3, a4, a5, a6, a7⟩ := yOk_short hk
    rcases h with h | h | ⟨h, g⟩ | h | ⟨h, g⟩
    · omega
    · omega
    · have := (hz a1).1 g
      rw [a4 h] at this; cases this
    · omega
    · have := hx.1 g
      rw [a5 (by omega)] at this; cases this
  · subst h3
    have e4 : s.size = 4 := by omega
    unfold yOk shortOk
    rw [decide_eq_true e4, hd.1 h1, decide_eq_true h5, decide_eq_true h2, decide_eq_true (show sig ≤ s.size + ex by omega)]
    have n1 : (neg && allB isZ s) = false := by
      cases hn : neg
      · rfl
      · have := h6 hn
        cases ha : allB isZ s
        · rfl
        · exact absurd ((hz e4).2 ha) this
    have n2 : (!decide (sig = 0) && hasB 88 s) = false := by
      rcases h8 with h | h
      · rw [decide_eq_true (show sig = 0 by omega)]; rfl
      · cases ha : hasB 88 s
        · simp
        · have := hx.2 ha; omega
    rw [n1, n2]; rfl
  · subst h3
    rw [Bool.eq_false_iff]
    intro hk
    obtain ⟨a1, a2, a3, a4, a5, a6, a7, a8, a9⟩ := yOk_long hk
    have hX : hasB 88 s = false := (hdd (hdx a3)).2 a3
    have nX : ¬ 0 < X := fun c => by rw [hx.1 c] at hX; cases hX
    have := hd.2 (hdx a3)
    have e5 : ¬ (ex = 0 ∧ s.size < 5) := by
      rintro ⟨c1, c2⟩
      unfold yOk longOk at hk
      simp [c1, c2] at hk
    omega
  · subst h3
    have hX : hasB 88 s = false := by
      cases ha : hasB 88 s
      · rfl
      · have := hx.2 ha; omega
    have ax := hd.1 h1
    have ad := (hdd ax).1 hX
    have : yOk neg true s ex sig = decide (magV s ex ≤ 10000000000000000) := by
      unfold yOk longOk
      have q : (decide (ex = 0) && decide (s.size < 5)) = false := by
        rw [Bool.eq_false_iff]; intro c; simp at c; omega
      rw [q, ad]
      simp [h7, h8, h9, h2, show 1 ≤ s.size by omega, show s.size ≤ 17 by omega, show sig ≤ s.size + ex by omega]
    rw [this]
    refine ⟨fun c => by rw [decide_eq_true c]; rfl, fun c => by rw [decide_eq_false (by omega)]; rfl⟩

/-- The least and the greatest text of a mask, so far. -/
def loS (s : ByteArray) (x : UInt8) : Nat → ByteArray
  | 0 => ⟨#[]⟩
  | k + 1 => loS s x k ++ (if byt s k = 88 then ⟨#[x]⟩ else s.extract k (k + 1))
theorem loS_succ (s : ByteArray) (x : UInt8) (k : Nat) : loS s x (k + 1) = loS s x k ++ (if byt s k = 88 then ⟨#[x]⟩ else s.extract k (k + 1)) := rfl
end Bk
end Go.Proofs.YtipjmaimjchckaaGreatDoor

/-! THE WALKS of layers 13 and 14's reference: counts of bytes, magnitudes, years. -/
set_option linter.unusedSimpArgs false
set_option linter.unusedVariables false
set_option maxRecDepth 100000
namespace Go.Proofs.YtipjmaimjchckaaGreatDoor
open Go.RowKit Go.Lib
namespace Bk
open Un (ba bt ri rb ret2_ii ret2_bi)

set_option maxHeartbeats 400000 in
theorem has_any (s : ByteArray) (a b : Int) (w : World) (hs : s.size ≤ maxLen) :
    Calls Tryz.prog 129 #[.string s, .int .u8 a, .int .u8 b] w fun r w' => r = .returned (.int .i64 (cntB a b s)) ∧ w = w' := by
  unfold maxLen at hs
  unfold cntB
  go_enter Tryz.func129, Tryz.ntmps129
  go_wp2
  go_loop [7, 8] (fun n i => ∃ k : Nat, k ≤ s.size ∧ i = .int .i64 k ∧ n = .int .i64 (cntL a b (s.data.toList.take k))) (fun _ i => s.size - (intOf i).toNat)
  case atStart => exact ⟨0, Nat.zero_le _, rfl, rfl⟩
  case round =>
    obtain ⟨k, hk, rfl, rfl⟩ := hrel
    have hd := cntL_le a b (s.data.toList.take k)
    have hl : (s.data.toList.take k).length ≤ k := List.length_take_le _ _
    by_cases hlt : k < s.size
    · have hsn := cntL_snoc a b (s.data.toList.take k) s[k]
      have hts := take_snoc s k hlt
      have HS : Hid (cntL a b (s.data.toList.take (k + 1)) = cntL a b (s.data.toList.take k) + if a ≤ (s[k].toNat : Int) ∧ (s[k].toNat : Int) ≤ b then 1 else 0) := Lib.hid (by rw [hts]; exact hsn)
      clear hsn hts
      go_wp2
      all_goals
        go_round
        case rel => exact ⟨k + 1, by omega, by go_num, by rw [HS.out]; first | rw [if_pos ⟨‹_›, ‹_›⟩] | (rw [if_neg (by omega)]; go_num)⟩
        case measure => simp [intOf]; omega
    · go_wp2
      go_ret
      exact ⟨ri (by rw [List.take_of_length_le (by simp; omega)]), rfl⟩

theorem rMasked_any (neg long : Bool) (s : ByteArray) (ex sig : Int) (w : World) (hs : s.size ≤ maxLen) :
    Calls Tryz.prog 88 #[.agg #[.bool neg, .bool long, .string s, .int .i64 ex, .int .i64 sig]] w fun r w' => r = .returned (.int .i64 (if hasB 88 s then 1 else 0)) ∧ Below w.heap.size w w' := by
  have HH := fun w => has_any s 88 88 w hs
  have hx := x_iff s
  have hp := (cntB_le 88 88 s).1
  obtain ⟨R, hR⟩ : ∃ R : Int, R = if hasB 88 s then 1 else 0 := ⟨_, rfl⟩
  rw [← hR]
  have hR2 : (0 < cntB 88 88 s → R = 1) ∧ (cntB 88 88 s ≤ 0 → R = 0) := by
    refine ⟨fun h => by rw [hR, if_pos (hx.1 h)], fun h => by rw [hR, if_neg (fun c => by have := hx.2 c; omega)]⟩
  generalize cntB 88 88 s = n at *
  have HX := Lib.hid hR2
  replace HH := Lib.hid HH
  clear hx hR hR2
  go_enter Tryz.func88, Tryz.ntmps88
  go_wp2_with (go_at_call 129; with_reducible refine (HH.out _).mono ?_; rintro _ w' ⟨rfl, rfl⟩)
  all_goals go_ret
  all_goals refine ⟨ri ?_, ba (Below.refl _ _) _⟩
  all_goals have := HX.out
  all_goals omega

/-- What Magnitude returns. -/
def magR (m : Int) : Int × Int := if m ≤ 10000000000000000 then (m, 1) else (0, 0)

set_option maxHeartbeats 1000000 in
theorem magnitude_any (s : ByteArray) (e : Nat) (w : World) (hs : s.size ≤ 1000) (he : e ≤ 1000) (hd : allB isDig s = true) :
    Calls Tryz.prog 89 #[.string s, .int .i64 e] w fun r w' => r = .returned (.tuple #[.int .i64 (magR (magV s e)).1, .int .i64 (magR (magV s e)).2]) ∧ w = w' := by
  have HD := Lib.hid hd
  clear hd
  go_enter Tryz.func89, Tryz.ntmps89
  go_wp2
  go_loop [6, 7] (fun n i => ∃ k : Nat, k ≤ s.size + e ∧ magP s k ≤ 10000000000000000 ∧ i = .int .i64 k ∧ n = .int .i64 (magP s k)) (fun _ i => s.size + e - (intOf i).toNat)
  case atStart => exact ⟨0, Nat.zero_le _, by rw [magP_zero]; omega, rfl, by rw [magP_zero]⟩
  case round =>
    obtain ⟨k, hk, hm, rfl, rfl⟩ := hrel
    have hp := magP_pos s k
    by_cases hlt : k < s.size + e
    · by_cases hc : k < s.size
      · have hda := dig_at HD.out k hc
        have HS := Lib.hid (magP_dig HD.out k hc)
        obtain ⟨d0, d1⟩ := hda
        go_wp2
        · go_ret2
          have h1 := HS.out
          have h2 := magP_mono HD.out (k + 1) (s.size + e - (k + 1))
          rw [show k + 1 + (s.size + e - (k + 1)) = s.size + e by omega, magP_all] at h2
          refine ⟨?_, rfl⟩
          unfold magR
          rw [if_neg (by omega)]
          rfl
        · go_round
          case rel => exact ⟨k + 1, by omega, by rw [HS.out]; omega, by go_num, by rw [HS.out]⟩
          case measure => simp [intOf]; omega
      · have HS := Lib.hid (magP_pow s k (by omega))
        go_wp2
        · go_ret2
          have h1 := HS.out
          have h2 := magP_mono HD.out (k + 1) (s.size + e - (k + 1))
          rw [show k + 1 + (s.size + e - (k + 1)) = s.size + e by omega, magP_all] at h2
          refine ⟨?_, rfl⟩
          unfold magR
          rw [if_neg (by omega)]
          rfl
        · go_round
          case rel => exact ⟨k + 1, by omega, by rw [HS.out]; omega, by go_num, by rw [HS.out]⟩
          case measure => simp [intOf]; omega
    · obtain rfl : k = s.size + e := by omega
      rw [magP_all] at hm hp ⊢
      go_wp2
      go_ret2
      refine ⟨?_, rfl⟩
      unfold magR
      rw [if_pos hm]
      rfl

set_option maxHeartbeats 4000000 in
theorem rYCheck_any (neg long : Bool) (s : ByteArray) (ex sig : Int) (w : World) (hs : s.size ≤ 1000) (s0 : -9223372036854775808 ≤ sig) (s1 : sig < 9223372036854775808) :
    Calls Tryz.prog 94 #[yv neg long s ex sig] w fun r w' => r = .returned (.int .i64 (if yOk neg long s ex sig then 1 else 0)) ∧ Below w.heap.size w w' := by
  have hF := yF neg long s ex sig
  have hY := Ym.new neg long s ex sig w 49
  have dd := cntB_le 48 57 s
  have dx := cntB_le 88 88 s
  have dz := cntB_le 48 48 s
  have HD := fun w => has_any s 48 57 w (by unfold maxLen; omega)
  have HX := fun w => has_any s 88 88 w (by unfold maxLen; omega)
  have HZ := fun w => has_any s 48 48 w (by unfold maxLen; omega)
  have HM : ∀ (e : Nat) w, cntB 48 57 s + cntB 88 88 s = s.size → cntB 88 88 s ≤ 0 → e ≤ 1000 → Calls Tryz.prog 89 #[.string s, .int .i64 e] w fun r w' => r = .returned (.tuple #[.int .i64 (magR (magV s e)).1, .int .i64 (magR (magV s e)).2]) ∧ w = w' := fun e w h1 h2 h3 =>
    magnitude_any s e w hs h3 (by
      have ax := (digX_iff s).1 h1
      refine (dig_iff ax).1 ?_
      cases ha : hasB 88 s
      · rfl
      · have := (x_iff s).2 ha; omega)
  have hl0 : 1 ≤ cntB 48 57 s → 0 < s.size := fun h => by omega
  have hb0 : ∀ h : 0 < s.size, ((s[0]'h).toNat : Int) = byt s 0 := fun h => (byt_get s 0 h).symm
  generalize (if yOk neg long s ex sig then (1 : Int) else 0) = R at *
  generalize cntB 48 57 s = D at *
  generalize cntB 88 88 s = X at *
  generalize cntB 48 48 s = Z at *
  generalize byt s 0 = b0 at *
  replace HD := Lib.hid HD; replace HX := Lib.hid HX; replace HZ := Lib.hid HZ; replace HM := Lib.hid HM
  unfold YF at hF
  unfold yv
  have HB0 := Lib.hid hb0
  clear hb0
  cases long
  · have HF : Hid _ := Lib.hid hF
    clear hF HM
    go_enter Tryz.func94, Tryz.ntmps94
    go_upto_region 1 with (fail)
    generalize w.alloc (.cells #[.bool neg, .bool false, .string s, .int .i64 ex, .int .i64 sig] 49) = W0 at hY ⊢
    obtain ⟨q0, q1, q2, q3, q4, qB⟩ := id hY
    go_cut [3, 4] (fun s3 s4 wx => s3 = .int .i64 D ∧ s4 = .int .i64 X ∧ Ym w.heap.size neg false s ex sig w wx)
    case first =>
      go_region_with (go_at_call 129; first | (with_reducible refine (HD.out _).mono ?_; rintro _ w' ⟨rfl, rfl⟩) | (with_reducible refine (HX.out _).mono ?_; rintro _ w' ⟨rfl, rfl⟩))
      all_goals (go_wp2_with fail)
      all_goals (go_meet; exact ⟨rfl, rfl, by first | exact hY | exact hY.drew' | exact hY.drew'.drew'⟩)
    case rest =>
      obtain ⟨rfl, rfl, hY⟩ := hcut
      clear q0 q1 q2 q3 q4 qB
      obtain ⟨q0, q1, q2, q3, q4, qB⟩ := id hY
      cases neg
      all_goals
        go_wp2_with (go_at_call 129; with_reducible refine (HZ.out _).mono ?_; rintro _ w' ⟨rfl, rfl⟩)
        all_goals go_ret
        all_goals refine ⟨ri ?_, hY.below⟩
        all_goals have hF := HF.out
        all_goals simp only [forall_const, reduceCtorEq, false_implies, implies_true, true_implies, and_true, true_and, false_and, false_or, ne_eq] at hF
        all_goals try simp only [beq_iff_eq] at *
        all_goals omega
  · have HF : Hid _ := Lib.hid hF
    clear hF HZ
    go_enter Tryz.func94, Tryz.ntmps94
    go_upto_region 1 with (fail)
    generalize w.alloc (.cells #[.bool neg, .bool true, .string s, .int .i64 ex, .int .i64 sig] 49) = W0 at hY ⊢
    obtain ⟨q0, q1, q2, q3, q4, qB⟩ := id hY
    go_cut [3, 4] (fun s3 s4 wx => s3 = .int .i64 D ∧ s4 = .int .i64 X ∧ Ym w.heap.size neg true s ex sig w wx)
    case first =>
      go_region_with (go_at_call 129; first | (with_reducible refine (HD.out _).mono ?_; rintro _ w' ⟨rfl, rfl⟩) | (with_reducible refine (HX.out _).mono ?_; rintro _ w' ⟨rfl, rfl⟩))
      all_goals (go_wp2_with fail)
      all_goals (go_meet; exact ⟨rfl, rfl, by first | exact hY | exact hY.drew' | exact hY.drew'.drew'⟩)
    case rest =>
      obtain ⟨rfl, rfl, hY⟩ := hcut
      clear q0 q1 q2 q3 q4 qB
      obtain ⟨q0, q1, q2, q3, q4, qB⟩ := id hY
      by_cases l0 : 0 < s.size
      case neg =>
        clear HM
        go_wp2_with fail
        all_goals go_ret
        all_goals refine ⟨ri ?_, hY.below⟩
        all_goals have hF := HF.out
        all_goals simp only [forall_const, reduceCtorEq, false_implies, implies_true, true_implies, and_true, true_and, false_and, false_or, ne_eq] at hF
        all_goals try simp only [beq_iff_eq] at *
        all_goals omega
      by_cases x0 : 0 ≤ ex
      case neg =>
        clear HM
        go_wp2_with fail
        all_goals go_ret
        all_goals refine ⟨ri ?_, hY.below⟩
        all_goals have hF := HF.out
        all_goals have hB := HB0.out l0
        all_goals simp only [forall_const, reduceCtorEq, false_implies, implies_true, true_implies, and_true, true_and, false_and, false_or, ne_eq] at hF
        all_goals try simp only [beq_iff_eq] at *
        all_goals omega
      obtain ⟨e, rfl⟩ : ∃ e : Nat, ex = e := ⟨ex.toNat, by omega⟩
      have HM2 := Lib.hid (fun w h1 h2 h3 => HM.out e w h1 h2 h3)
      clear HM
      generalize magV s e = m at *
      rcases Nat.eq_zero_or_pos e with rfl | e0
      · have HM3 : Hid (∀ w, D + X = s.size → X ≤ 0 → Calls Tryz.prog 89 #[.string s, .int .i64 0] w fun r w' => r = .returned (.tuple #[.int .i64 (magR m).1, .int .i64 (magR m).2]) ∧ w = w') := Lib.hid (fun w h1 h2 => HM2.out w h1 h2 (by omega))
        clear HM2
        by_cases hm : m ≤ 10000000000000000
        · rw [show magR m = (m, 1) by unfold magR; rw [if_pos hm]] at HM3
          go_wp2_with (go_at_call 89; with_reducible refine (HM3.out _ (by omega) (by omega)).mono ?_; rintro _ w' ⟨rfl, rfl⟩)
          all_goals go_ret
          all_goals refine ⟨ri ?_, hY.below⟩
          all_goals have hF := HF.out
          all_goals have hB := HB0.out l0
          all_goals simp only [forall_const, reduceCtorEq, false_implies, implies_true, true_implies, and_true, true_and, false_and, false_or, ne_eq] at hF
          all_goals try simp only [beq_iff_eq] at *
          all_goals omega
        · rw [show magR m = (0, 0) by unfold magR; rw [if_neg hm]] at HM3
          go_wp2_with (go_at_call 89; with_reducible refine (HM3.out _ (by omega) (by omega)).mono ?_; rintro _ w' ⟨rfl, rfl⟩)
          all_goals go_ret
          all_goals refine ⟨ri ?_, hY.below⟩
          all_goals have hF := HF.out
          all_goals have hB := HB0.out l0
          all_goals simp only [forall_const, reduceCtorEq, false_implies, implies_true, true_implies, and_true, true_and, false_and, false_or, ne_eq] at hF
          all_goals try simp only [beq_iff_eq] at *
          all_goals omega
      have e1 : ¬ (e : Int) = 0 := by omega
      by_cases hm : m ≤ 10000000000000000
      · rw [show magR m = (m, 1) by unfold magR; rw [if_pos hm]] at HM2
        go_wp2_with (go_at_call 89; with_reducible refine (HM2.out _ (by omega) (by omega) (by omega)).mono ?_; rintro _ w' ⟨rfl, rfl⟩)
        all_goals go_ret
        all_goals refine ⟨ri ?_, hY.below⟩
        all_goals have hF := HF.out
        all_goals have hB := HB0.out l0
        all_goals simp only [forall_const, reduceCtorEq, false_implies, implies_true, true_implies, and_true, true_and, false_and, false_or, ne_eq] at hF
        all_goals try simp only [beq_iff_eq] at *
        all_goals omega
      · rw [show magR m = (0, 0) by unfold magR; rw [if_neg hm]] at HM2
        go_wp2_with (go_at_call 89; with_reducible refine (HM2.out _ (by omega) (by omega) (by omega)).mono ?_; rintro _ w' ⟨rfl, rfl⟩)
        all_goals go_ret
        all_goals refine ⟨ri ?_, hY.below⟩
        all_goals have hF := HF.out
        all_goals have hB := HB0.out l0
        all_goals simp only [forall_const, reduceCtorEq, false_implies, implies_true, true_implies, and_true, true_and, false_and, false_or, ne_eq] at hF
        all_goals try simp only [beq_iff_eq] at *
        all_goals omega
end Bk
end Go.Proofs.YtipjmaimjchckaaGreatDoor

