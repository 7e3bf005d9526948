/- THE WALKS of years as they are written (package yearforms): Masked, magnitude, checkLong, Check, Value. -/
import Derived.Test.YtipjmaimjchckaaGreatDoorNB
import Derived.Test.YtipjmaimjchckaaGreatDoorNA
import Derived.Deep.DeepCutAuto
import Derived.Lib.AtoiErrMem
import Derived.Test.YtipjmaimjchckaaGreatDoorNH
import Derived.Defers
import Derived.Deep.QuietTactic
import Derived.BigQuiet
/-! THE WALKS of years as they are written (package yearforms): Masked, magnitude, checkLong, Check, Value. -/
set_option linter.unusedSimpArgs false
set_option linter.unusedVariables false
set_option maxRecDepth 100000
namespace Go.Proofs.YtipjmaimjchckaaGreatDoor
open Go.RowKit Go.Lib
namespace Bk
open Un (ba bt ri rb ret2_ii ret2_bi)

/-- A year's value. -/
def yv (neg long : Bool) (s : ByteArray) (ex sig : Int) : Value := .agg #[.bool neg, .bool long, .string s, .int .i64 ex, .int .i64 sig]

/-- A block holds a year. -/
structure Ym (p : Nat) (neg long : Bool) (s : ByteArray) (ex sig : Int) (w W : World) : Prop where
  c0 : W.cell? ⟨p, 0, none⟩ = some (.bool neg)
  c1 : W.cell? ⟨p, 1, none⟩ = some (.bool long)
  c2 : W.cell? ⟨p, 2, none⟩ = some (.string s)
  c3 : W.cell? ⟨p, 3, none⟩ = some (.int .i64 ex)
  c4 : W.cell? ⟨p, 4, none⟩ = some (.int .i64 sig)
  below : Below w.heap.size w W
theorem Ym.later {p : Nat} {neg long : Bool} {s : ByteArray} {ex sig : Int} {w W W2 : World} (h : Ym p neg long s ex sig w W) (hb : Below W.heap.size W W2) : Ym p neg long s ex sig w W2 :=
  have g : ∀ {p : Addr} {v : Value}, W.cell? p = some v → W2.cell? p = some v := fun {p v} hc => (hb.cell (World.block_lt_of_cell? _ _ hc)).trans hc
  ⟨g h.c0, g h.c1, g h.c2, g h.c3, g h.c4, bt h.below hb⟩
theorem Ym.new (neg long : Bool) (s : ByteArray) (ex sig : Int) (w : World) (t : TypeId) : Ym w.heap.size neg long s ex sig w (w.alloc (.cells #[.bool neg, .bool long, .string s, .int .i64 ex, .int .i64 sig] t)) := by
  refine ⟨?_, ?_, ?_, ?_, ?_, ba (Below.refl _ _) _⟩ <;> simp [go_sem]
theorem Ym.drew' {p : Nat} {neg long : Bool} {s : ByteArray} {ex sig : Int} {w W : World} (h : Ym p neg long s ex sig w W) : Ym p neg long s ex sig w W.drew := h.later (Below.refl _ _).drew

theorem yMasked_any (neg long : Bool) (s : ByteArray) (ex sig : Int) (w : World) :
    Calls Tryz.prog 80 #[yv neg long s ex sig] w fun r w' => r = .returned (.bool (hasB 88 s)) ∧ Below w.heap.size w w' := by
  have HC : ∀ W, Calls Tryz.prog 54 #[.string s, .string ⟨#[88]⟩] W fun e w' => e = .returned (.bool (hasB 88 s)) ∧ w' = W := by
    intro W
    have := Tryz.strings_Contains_one s 88 W
    rw [indexByte_has] at this
    exact this
  replace HC := Lib.hid HC
  unfold yv
  go_enter Tryz.func80, Tryz.ntmps80
  go_wp2_with (go_at_call 54; with_reducible refine (HC.out _).mono ?_; rintro _ w' ⟨rfl, rfl⟩)
  go_ret
  exact ⟨rfl, ba (Below.refl _ _) _⟩

/-- What magnitude returns. -/
def magC (m : Int) : Int × Int := if m ≤ 10000000000000000 then (m, 0) else (0, 6)

theorem parse_any (s : ByteArray) (hd : allB isDig s = true) (h1 : 1 ≤ s.size) (h2 : s.size ≤ 17) (W : World) :
    Calls Tryz.prog 122 #[.string s, .int .i64 10, .int .i64 64] W fun e w' => e = .returned (.tuple #[.int .i64 (decS s), .nilIface]) ∧ Below W.heap.size W w' := by
  have hl : s.data.toList.length = s.size := by simp
  have hp := parse_digits s.data.toList (fun e => by rw [e] at hl; have : ([] : List UInt8).length = 0 := rfl; omega) (allB_digB hd) (by omega)
  refine (Tryz.strconv_ParseInt_10_at64_ok s (by omega) _ hp W).mono ?_
  rintro e w' ⟨rfl, h⟩
  refine ⟨rfl, ?_⟩
  rcases h with rfl | ⟨t, rfl⟩
  · exact Below.refl _ _
  · exact Go.Lib.bytesWorld_below _ _ _

set_option maxHeartbeats 1000000 in
theorem yMagnitude_any (neg long : Bool) (s : ByteArray) (e : Nat) (sig : Int) (w : World) (hd : allB isDig s = true) (h1 : 1 ≤ s.size) (h2 : s.size ≤ 17) (he : e ≤ 16) :
    Calls Tryz.prog 81 #[yv neg long s e sig] w fun r w' => r = .returned (.tuple #[.int .i64 (magC (magV s e)).1, .int .i64 (magC (magV s e)).2]) ∧ Below w.heap.size w w' := by
  have HP := Lib.hid (fun w => parse_any s hd h1 h2 w)
  have HT := Lib.hid (fun w => pow10_any e w (by omega))
  have hs := decS_lt hd h2
  have hs0 := decS_pos s
  have hp := p10_bd e (by omega)
  have hM := fun w => mul_any (decS s) (p10 e) w hs0 (by omega) (by omega) (by omega)
  have hv : magV s e = decS s * p10 e := by unfold magV; rw [Int.toNat_natCast]
  have hv0 := magV_pos s e
  have hx : mulC (decS s) (p10 e) = if magV s e ≤ 9223372036854775807 then (magV s e, 0) else (0, 15) := by unfold mulC; rw [hv]
  rw [hx] at hM
  clear hx hv hd
  generalize magV s e = v at *
  generalize decS s = n at *
  generalize p10 e = p at *
  unfold yv
  have hY := Ym.new neg long s e sig w 49
  by_cases c : v ≤ 10000000000000000
  · have HM : Hid (∀ w : World, Calls Tryz.prog 124 #[.int .i64 n, .int .i64 p] w fun r w' => r = .returned (.tuple #[.int .i64 v, .int .i64 0]) ∧ Below w.heap.size w w') := Lib.hid (by intro w; have := hM w; rw [if_pos (by omega)] at this; exact this)
    clear hM
    have hR : magC v = (v, 0) := by unfold magC; rw [if_pos c]
    rw [hR]
    go_enter Tryz.func81, Tryz.ntmps81
    go_upto_region 1 with (fail)
    generalize w.alloc (.cells #[.bool neg, .bool long, .string s, .int .i64 e, .int .i64 sig] 49) = W0 at hY ⊢
    obtain ⟨q0, q1, q2, q3, q4, qB⟩ := id hY
    go_wp2_with (first
      | (go_at_call 122; with_reducible refine (HP.out _).mono ?_; rintro _ w' ⟨rfl, hb⟩; replace hY := hY.later hb; clear hb; obtain ⟨q0, q1, q2, q3, q4, qB⟩ := id hY)
      | (go_at_call 123; with_reducible refine (HT.out _).mono ?_; rintro _ w' ⟨rfl, rfl⟩)
      | (go_at_call 124; with_reducible refine (HM.out _).mono ?_; rintro _ w' ⟨rfl, hb⟩; replace hY := hY.later hb; clear hb; obtain ⟨q0, q1, q2, q3, q4, qB⟩ := id hY))
    go_ret2
    exact ⟨rfl, hY.below⟩
  · have HM : Hid (∀ w : World, Calls Tryz.prog 124 #[.int .i64 n, .int .i64 p] w fun r w' => (∃ y x : Int, (x ≠ 0 ∨ 10000000000000000 < y) ∧ r = .returned (.tuple #[.int .i64 y, .int .i64 x])) ∧ Below w.heap.size w w') := Lib.hid (by
      intro w; have := hM w
      by_cases c2 : v ≤ 9223372036854775807
      · rw [if_pos c2] at this
        exact this.mono fun r w' ⟨h1, h2⟩ => ⟨⟨v, 0, Or.inr (by omega), h1⟩, h2⟩
      · rw [if_neg c2] at this
        exact this.mono fun r w' ⟨h1, h2⟩ => ⟨⟨0, 15, Or.inl (by omega), h1⟩, h2⟩)
    clear hM
    have hR : magC v = (0, 6) := by unfold magC; rw [if_neg c]
    rw [hR]
    go_enter Tryz.func81, Tryz.ntmps81
    go_upto_region 1 with (fail)
    generalize w.alloc (.cells #[.bool neg, .bool long, .string s, .int .i64 e, .int .i64 sig] 49) = W0 at hY ⊢
    obtain ⟨q0, q1, q2, q3, q4, qB⟩ := id hY
    go_wp2_with (first
      | (go_at_call 122; with_reducible refine (HP.out _).mono ?_; rintro _ w' ⟨rfl, hb⟩; replace hY := hY.later hb; clear hb; obtain ⟨q0, q1, q2, q3, q4, qB⟩ := id hY)
      | (go_at_call 123; with_reducible refine (HT.out _).mono ?_; rintro _ w' ⟨rfl, rfl⟩)
      | (go_at_call 124; with_reducible refine (HM.out _).mono ?_; rintro _ w' ⟨⟨y, x, hxy, rfl⟩, hb⟩; replace hY := hY.later hb; clear hb; obtain ⟨q0, q1, q2, q3, q4, qB⟩ := id hY))
    all_goals go_ret2
    all_goals first | exact ⟨rfl, hY.below⟩ | (exfalso; omega)

set_option maxHeartbeats 4000000 in
theorem checkLong_any (neg long : Bool) (s : ByteArray) (ex sig : Int) (w : World) (hs : s.size ≤ 1000) :
    Calls Tryz.prog 121 #[yv neg long s ex sig] w fun r w' => r = .returned (.bool (longOk s ex)) ∧ Below w.heap.size w w' := by
  have hY := Ym.new neg long s ex sig w 49
  have HO := fun w => onlyDig_any s w
  unfold digS at HO
  by_cases c1 : ¬ (1 ≤ s.size)
  · have hF : longOk s ex = false := by
      unfold longOk
      simp; omega
    rw [hF]; clear hF
    clear HO
    unfold yv
    go_enter Tryz.func121, Tryz.ntmps121
    go_upto_region 1 with (fail)
    generalize w.alloc (.cells #[.bool neg, .bool long, .string s, .int .i64 ex, .int .i64 sig] 49) = W0 at hY ⊢
    obtain ⟨q0, q1, q2, q3, q4, qB⟩ := id hY
    go_wp2_with fail
    go_ret
    exact ⟨rfl, hY.below⟩
  replace c1 : 1 ≤ s.size := by omega
  by_cases c2 : ¬ (s.size ≤ 17)
  · have hF : longOk s ex = false := by
      unfold longOk
      simp; omega
    rw [hF]; clear hF
    clear HO
    unfold yv
    go_enter Tryz.func121, Tryz.ntmps121
    go_upto_region 1 with (fail)
    generalize w.alloc (.cells #[.bool neg, .bool long, .string s, .int .i64 ex, .int .i64 sig] 49) = W0 at hY ⊢
    obtain ⟨q0, q1, q2, q3, q4, qB⟩ := id hY
    go_wp2_with fail
    go_ret
    exact ⟨rfl, hY.below⟩
  replace c2 : s.size ≤ 17 := by omega
  by_cases c3 : ¬ (allB isDig s = true)
  · have hF : longOk s ex = false := by
      unfold longOk
      rw [Bool.not_eq_true] at c3; simp [c3]
    rw [hF]; clear hF
    rw [show allB isDig s = false by simpa using c3] at HO; replace HO := Lib.hid HO; clear c3
    unfold yv
    go_enter Tryz.func121, Tryz.ntmps121
    go_upto_region 1 with (fail)
    generalize w.alloc (.cells #[.bool neg, .bool long, .string s, .int .i64 ex, .int .i64 sig] 49) = W0 at hY ⊢
    obtain ⟨q0, q1, q2, q3, q4, qB⟩ := id hY
    go_wp2_with (first | (go_at_call 119; with_reducible refine (HO.out _).mono ?_; rintro _ w' ⟨rfl, hb⟩; replace hY := hY.later hb; clear hb; obtain ⟨q0, q1, q2, q3, q4, qB⟩ := id hY))
    go_ret
    exact ⟨rfl, hY.below⟩
  have hd : allB isDig s = true := by simpa using c3
  rw [hd] at HO; replace HO := Lib.hid HO; clear c3
  have l0 : 0 < s.size := by omega
  by_cases c4 : ¬ (byt s 0 ≠ 48)
  · have hF : longOk s ex = false := by
      unfold longOk
      have : byt s 0 = 48 := by omega
      simp [this]
    have c4b : ((s[0]'l0).toNat : Int) = 48 := by rw [← byt_get s 0 l0]; omega
    rw [hF]; clear hF
    unfold yv
    go_enter Tryz.func121, Tryz.ntmps121
    go_upto_region 1 with (fail)
    generalize w.alloc (.cells #[.bool neg, .bool long, .string s, .int .i64 ex, .int .i64 sig] 49) = W0 at hY ⊢
    obtain ⟨q0, q1, q2, q3, q4, qB⟩ := id hY
    go_wp2_with (first | (go_at_call 119; with_reducible refine (HO.out _).mono ?_; rintro _ w' ⟨rfl, hb⟩; replace hY := hY.later hb; clear hb; obtain ⟨q0, q1, q2, q3, q4, qB⟩ := id hY))
    go_ret
    exact ⟨rfl, hY.below⟩
  have c4' : byt s 0 ≠ 48 := by simpa using c4
  clear c4
  have c4b : ¬ (((s[0]'(by omega)).toNat : Int) = 48) := by rw [← byt_get s 0 (by omega)]; exact c4'
  have l0 : 0 < s.size := by omega
  by_cases c5 : ¬ (0 ≤ ex)
  · have hF : longOk s ex = false := by
      unfold longOk
      simp; omega
    rw [hF]; clear hF
    unfold yv
    go_enter Tryz.func121, Tryz.ntmps121
    go_upto_region 1 with (fail)
    generalize w.alloc (.cells #[.bool neg, .bool long, .string s, .int .i64 ex, .int .i64 sig] 49) = W0 at hY ⊢
    obtain ⟨q0, q1, q2, q3, q4, qB⟩ := id hY
    go_wp2_with (first | (go_at_call 119; with_reducible refine (HO.out _).mono ?_; rintro _ w' ⟨rfl, hb⟩; replace hY := hY.later hb; clear hb; obtain ⟨q0, q1, q2, q3, q4, qB⟩ := id hY))
    go_ret
    exact ⟨rfl, hY.below⟩
  replace c5 : 0 ≤ ex := by omega
  by_cases c6 : ¬ (ex ≤ 16)
  · have hF : longOk s ex = false := by
      unfold longOk
      simp; omega
    rw [hF]; clear hF
    unfold yv
    go_enter Tryz.func121, Tryz.ntmps121
    go_upto_region 1 with (fail)
    generalize w.alloc (.cells #[.bool neg, .bool long, .string s, .int .i64 ex, .int .i64 sig] 49) = W0 at hY ⊢
    obtain ⟨q0, q1, q2, q3, q4, qB⟩ := id hY
    go_wp2_with (first | (go_at_call 119; with_reducible refine (HO.out _).mono ?_; rintro _ w' ⟨rfl, hb⟩; replace hY := hY.later hb; clear hb; obtain ⟨q0, q1, q2, q3, q4, qB⟩ := id hY))
    go_ret
    exact ⟨rfl, hY.below⟩
  replace c6 : ex ≤ 16 := by omega
  by_cases c7 : ¬ (¬ (ex = 0 ∧ s.size < 5))
  · have hF : longOk s ex = false := by
      unfold longOk
      have h1 : ex = 0 := by omega
      have h2 : s.size < 5 := by omega
      simp [h1, h2]
    rw [hF]; clear hF
    unfold yv
    go_enter Tryz.func121, Tryz.ntmps121
    go_upto_region 1 with (fail)
    generalize w.alloc (.cells #[.bool neg, .bool long, .string s, .int .i64 ex, .int .i64 sig] 49) = W0 at hY ⊢
    obtain ⟨q0, q1, q2, q3, q4, qB⟩ := id hY
    have c7a : ex = 0 := by omega
    have c7b : s.size < 5 := by omega
    go_wp2_with (first | (go_at_call 119; with_reducible refine (HO.out _).mono ?_; rintro _ w' ⟨rfl, hb⟩; replace hY := hY.later hb; clear hb; obtain ⟨q0, q1, q2, q3, q4, qB⟩ := id hY))
    go_ret
    exact ⟨rfl, hY.below⟩
  replace c7 : ¬ (ex = 0 ∧ s.size < 5) := by omega
  obtain ⟨e, rfl⟩ : ∃ e : Nat, ex = e := ⟨ex.toNat, by omega⟩
  have hG := fun w => yMagnitude_any neg long s e sig w hd c1 c2 (by omega)
  have hL : longOk s e = decide (magV s e ≤ 10000000000000000) := by
    unfold longOk
    have h7 : (decide ((e : Int) = 0) && decide (s.size < 5)) = false := by
      rw [Bool.eq_false_iff]; intro h; simp at h; omega
    rw [hd, h7]
    simp [c1, c2, c4', show (e : Int) ≤ 16 by omega]
  rw [hL]
  clear hL
  generalize magV s e = v at *
  clear hd
  have hE : (((e : Int) == 0) = true ∧ ¬ (s.size : Int) < 5) ∨ ((e : Int) == 0) = false := by
    by_cases h0 : (e : Int) = 0
    · exact .inl ⟨by rw [h0]; rfl, by omega⟩
    · exact .inr (by rw [beq_eq_false_iff_ne]; exact h0)
  rcases hE with ⟨hE, hE2⟩ | hE
  all_goals
    by_cases c : v ≤ 10000000000000000
    · rw [show magC v = (v, 0) by unfold magC; rw [if_pos c]] at hG
      have HG := Lib.hid hG; clear hG
      unfold yv at HG
      rw [decide_eq_true c]
      unfold yv
      go_enter Tryz.func121, Tryz.ntmps121
      go_upto_region 1 with (fail)
      generalize w.alloc (.cells #[.bool neg, .bool long, .string s, .int .i64 e, .int .i64 sig] 49) = W0 at hY ⊢
      obtain ⟨q0, q1, q2, q3, q4, qB⟩ := id hY
      go_wp2_with (first | (go_at_call 119; with_reducible refine (HO.out _).mono ?_; rintro _ w' ⟨rfl, hb⟩; replace hY := hY.later hb; clear hb; obtain ⟨q0, q1, q2, q3, q4, qB⟩ := id hY) | (go_at_call 81; with_reducible refine (HG.out _).mono ?_; rintro _ w' ⟨rfl, hb⟩; replace hY := hY.later hb; clear hb; obtain ⟨q0, q1, q2, q3, q4, qB⟩ := id hY))
      all_goals go_ret
      all_goals first | exact ⟨rfl, hY.below⟩ | (exfalso; omega) | (exfalso; rename_i h; simp only [beq_iff_eq] at h; omega)
    · rw [show magC v = (0, 6) by unfold magC; rw [if_neg c]] at hG
      have HG := Lib.hid hG; clear hG
      unfold yv at HG
      rw [decide_eq_false c]
      unfold yv
      go_enter Tryz.func121, Tryz.ntmps121
      go_upto_region 1 with (fail)
      generalize w.alloc (.cells #[.bool neg, .bool long, .string s, .int .i64 e, .int .i64 sig] 49) = W0 at hY ⊢
      obtain ⟨q0, q1, q2, q3, q4, qB⟩ := id hY
      go_wp2_with (first | (go_at_call 119; with_reducible refine (HO.out _).mono ?_; rintro _ w' ⟨rfl, hb⟩; replace hY := hY.later hb; clear hb; obtain ⟨q0, q1, q2, q3, q4, qB⟩ := id hY) | (go_at_call 81; with_reducible refine (HG.out _).mono ?_; rintro _ w' ⟨rfl, hb⟩; replace hY := hY.later hb; clear hb; obtain ⟨q0, q1, q2, q3, q4, qB⟩ := id hY))
      all_goals go_ret
      all_goals first | exact ⟨rfl, hY.below⟩ | (exfalso; omega) | (exfalso; rename_i h; simp only [beq_iff_eq] at h; omega)
end Bk
end Go.Proofs.YtipjmaimjchckaaGreatDoor

/-! THE WALKS of years as they are written (package yearforms): Check, Value. -/
set_option linter.unusedSimpArgs false
set_option linter.unusedVariables false
set_option maxRecDepth 100000
namespace Go.Proofs.YtipjmaimjchckaaGreatDoor
open Go.RowKit Go.Lib
namespace Bk
open Un (ba bt ri rb ret2_ii ret2_bi)

theorem trim_allZ (s : ByteArray) : (Lib.trimB s.data.toList 48 = []) ↔ allB isZ s = true := by
  rw [← trimS_one, trim_none]
  unfold allB isZ
  rw [List.all_eq_true, List.all_eq_true]
  constructor
  · intro h b hb
    have := h b hb
    rw [beq_iff_eq] at this
    subst this; rfl
  · intro h b hb
    have := of_decide_eq_true (h b hb)
    rw [beq_iff_eq]
    exact UInt8.toNat_inj.1 (by show b.toNat = 48; omega)

theorem trimZ_any (s : ByteArray) (hs : s.size ≤ 1000) (W : World) :
    Calls Tryz.prog 120 #[.string s, .string ⟨#[48]⟩] W fun e w' => (∃ t : List UInt8, (t = [] ↔ allB isZ s = true) ∧ e = .returned (.string ⟨t.toArray⟩)) ∧ Below W.heap.size W w' := by
  refine (Tryz.strings_Trim_one s 48 (by decide) W (by omega)).mono ?_
  rintro e w' ⟨rfl, h⟩
  refine ⟨⟨_, trim_allZ s, rfl⟩, ?_⟩
  rcases h with rfl | rfl
  · exact Below.refl _ _
  · exact (Below.refl _ _).drew

set_option maxHeartbeats 4000000 in
theorem yCheck_any (neg long : Bool) (s : ByteArray) (ex sig : Int) (w : World) (hs : s.size ≤ 1000) :
    Calls Tryz.prog 79 #[yv neg long s ex sig] w fun r w' => r = .returned (.int .i64 (if yOk neg long s ex sig then 0 else 6)) ∧ Below w.heap.size w w' := by
  obtain ⟨R, hR⟩ : ∃ R : Int, R = if yOk neg long s ex sig then 0 else 6 := ⟨_, rfl⟩
  rw [← hR]
  replace hR := Lib.hid hR
  have hY := Ym.new neg long s ex sig w 49
  have hO := fun w => onlyX_any s w
  unfold xdigS at hO
  have hT := fun w => trimZ_any s hs w
  have HM := Lib.hid (fun w => yMasked_any neg long s ex sig w)
  have HL := Lib.hid (fun w => checkLong_any neg long s ex sig w hs)
  unfold yv at HM HL
  unfold yv
  go_enter Tryz.func79, Tryz.ntmps79
  go_upto_region 1 with (fail)
  generalize w.alloc (.cells #[.bool neg, .bool long, .string s, .int .i64 ex, .int .i64 sig] 49) = W0 at hY ⊢
  obtain ⟨q0, q1, q2, q3, q4, qB⟩ := id hY
  obtain ⟨S, hS⟩ : ∃ S, S = shortOk neg s ex sig := ⟨_, rfl⟩
  replace hS := Lib.hid hS
  go_cut [3] (fun s3 wx => s3 = .bool S ∧ Ym w.heap.size neg long s ex sig w wx)
  case first =>
    clear HL
    by_cases c1 : ¬ s.size = 4
    · have hF : shortOk neg s ex sig = false := by unfold shortOk; simp [c1]
      obtain rfl : S = false := hS.out.trans hF; clear hF hS hO hT HM
      go_wp2_with fail
      go_meet
      exact ⟨rfl, hY⟩
    replace c1 : s.size = 4 := by omega
    by_cases c2 : allB isDigX s = true
    case neg =>
      have hF : shortOk neg s ex sig = false := by unfold shortOk; simp [c2]
      obtain rfl : S = false := hS.out.trans hF; clear hF hS hT HM
      rw [show allB isDigX s = false by simpa using c2] at hO
      have HO := Lib.hid hO
      clear hO c2
      go_wp2_with (first | (go_at_call 119; with_reducible refine (HO.out _).mono ?_; rintro _ w' ⟨rfl, hb⟩; replace hY := hY.later hb; clear hb; obtain ⟨q0, q1, q2, q3, q4, qB⟩ := id hY))
      go_meet
      exact ⟨rfl, hY⟩
    rw [c2] at hO
    have HO := Lib.hid hO
    clear hO
    by_cases c3 : ¬ ex = 0
    · have hF : shortOk neg s ex sig = false := by unfold shortOk; simp [c3]
      obtain rfl : S = false := hS.out.trans hF; clear hF hS hT HM c2
      go_wp2_with (first | (go_at_call 119; with_reducible refine (HO.out _).mono ?_; rintro _ w' ⟨rfl, hb⟩; replace hY := hY.later hb; clear hb; obtain ⟨q0, q1, q2, q3, q4, qB⟩ := id hY))
      go_meet
      exact ⟨rfl, hY⟩
    obtain rfl : ex = 0 := by omega
    have hF : shortOk neg s 0 sig = (!(neg && allB isZ s) && !(!decide (sig = 0) && hasB 88 s)) := by unfold shortOk; simp [c1, c2]
    have hV := hS.out.trans hF
    clear hF hS c2 c3
    generalize hasB 88 s = x at HM hV
    cases neg
    · clear hT
      by_cases c4 : sig = 0
      · subst c4
        obtain rfl : S = true := by rw [hV]; simp
        clear hV HM
        go_wp2_with (first | (go_at_call 119; with_reducible refine (HO.out _).mono ?_; rintro _ w' ⟨rfl, hb⟩; replace hY := hY.later hb; clear hb; obtain ⟨q0, q1, q2, q3, q4, qB⟩ := id hY))
        go_meet
        exact ⟨rfl, hY⟩
      · have c4b : (sig != 0) = true := by rw [bne_iff_ne]; exact c4
        cases x
        · obtain rfl : S = true := by rw [hV]; simp
          clear hV
          go_wp2_with (first | (go_at_call 119; with_reducible refine (HO.out _).mono ?_; rintro _ w' ⟨rfl, hb⟩; replace hY := hY.later hb; clear hb; obtain ⟨q0, q1, q2, q3, q4, qB⟩ := id hY) | (go_at_call 80; with_reducible refine (HM.out _).mono ?_; rintro _ w' ⟨rfl, hb⟩; replace hY := hY.later hb; clear hb; obtain ⟨q0, q1, q2, q3, q4, qB⟩ := id hY))
          go_meet
          exact ⟨rfl, hY⟩
        · obtain rfl : S = false := by rw [hV]; simp [c4]
          clear hV
          go_wp2_with (first | (go_at_call 119; with_reducible refine (HO.out _).mono ?_; rintro _ w' ⟨rfl, hb⟩; replace hY := hY.later hb; clear hb; obtain ⟨q0, q1, q2, q3, q4, qB⟩ := id hY) | (go_at_call 80; with_reducible refine (HM.out _).mono ?_; rintro _ w' ⟨rfl, hb⟩; replace hY := hY.later hb; clear hb; obtain ⟨q0, q1, q2, q3, q4, qB⟩ := id hY))
          go_meet
          exact ⟨rfl, hY⟩
    · cases hz : allB isZ s
      · rw [hz] at hT hV
        have HT : Hid (∀ W, Calls Tryz.prog 120 #[.string s, .string ⟨#[48]⟩] W fun e w' => (∃ u : ByteArray, u.toList.isEmpty = false ∧ e = .returned (.string u)) ∧ Below W.heap.size W w') := Lib.hid (by
          intro W; refine (hT W).mono ?_; rintro e w' ⟨⟨t, ht, h⟩, hb⟩
          refine ⟨⟨_, ?_, h⟩, hb⟩
          rw [ByteArray.toList_mk]
          cases t with
          | nil => exact absurd (ht.1 rfl) (by decide)
          | cons a b => rfl)
        clear hT hz
        by_cases c4 : sig = 0
        · subst c4
          obtain rfl : S = true := by rw [hV]; simp
          clear hV HM
          go_wp2_with (first | (go_at_call 119; with_reducible refine (HO.out _).mono ?_; rintro _ w' ⟨rfl, hb⟩; replace hY := hY.later hb; clear hb; obtain ⟨q0, q1, q2, q3, q4, qB⟩ := id hY) | (go_at_call 120; with_reducible refine (HT.out _).mono ?_; rintro _ w' ⟨⟨u, hu, rfl⟩, hb⟩; replace hY := hY.later hb; clear hb; obtain ⟨q0, q1, q2, q3, q4, qB⟩ := id hY))
          go_meet
          exact ⟨rfl, hY⟩
        · have c4b : (sig != 0) = true := by rw [bne_iff_ne]; exact c4
          cases x
          · obtain rfl : S = true := by rw [hV]; simp
            clear hV
            go_wp2_with (first | (go_at_call 119; with_reducible refine (HO.out _).mono ?_; rintro _ w' ⟨rfl, hb⟩; replace hY := hY.later hb; clear hb; obtain ⟨q0, q1, q2, q3, q4, qB⟩ := id hY) | (go_at_call 120; with_reducible refine (HT.out _).mono ?_; rintro _ w' ⟨⟨u, hu, rfl⟩, hb⟩; replace hY := hY.later hb; clear hb; obtain ⟨q0, q1, q2, q3, q4, qB⟩ := id hY) | (go_at_call 80; with_reducible refine (HM.out _).mono ?_; rintro _ w' ⟨rfl, hb⟩; replace hY := hY.later hb; clear hb; obtain ⟨q0, q1, q2, q3, q4, qB⟩ := id hY))
            go_meet
            exact ⟨rfl, hY⟩
          · obtain rfl : S = false := by rw [hV]; simp [c4]
            clear hV
            go_wp2_with (first | (go_at_call 119; with_reducible refine (HO.out _).mono ?_; rintro _ w' ⟨rfl, hb⟩; replace hY := hY.later hb; clear hb; obtain ⟨q0, q1, q2, q3, q4, qB⟩ := id hY) | (go_at_call 120; with_reducible refine (HT.out _).mono ?_; rintro _ w' ⟨⟨u, hu, rfl⟩, hb⟩; replace hY := hY.later hb; clear hb; obtain ⟨q0, q1, q2, q3, q4, qB⟩ := id hY) | (go_at_call 80; with_reducible refine (HM.out _).mono ?_; rintro _ w' ⟨rfl, hb⟩; replace hY := hY.later hb; clear hb; obtain ⟨q0, q1, q2, q3, q4, qB⟩ := id hY))
            go_meet
            exact ⟨rfl, hY⟩
      · rw [hz] at hT hV
        have HT : Hid (∀ W, Calls Tryz.prog 120 #[.string s, .string ⟨#[48]⟩] W fun e w' => e = .returned (.string ⟨#[]⟩) ∧ Below W.heap.size W w') := Lib.hid (by
          intro W; refine (hT W).mono ?_; rintro e w' ⟨⟨t, ht, h⟩, hb⟩; obtain rfl := ht.2 rfl; exact ⟨h, hb⟩)
        clear hT hz
        obtain rfl : S = false := by rw [hV]; rfl
        clear hV
        go_wp2_with (first | (go_at_call 119; with_reducible refine (HO.out _).mono ?_; rintro _ w' ⟨rfl, hb⟩; replace hY := hY.later hb; clear hb; obtain ⟨q0, q1, q2, q3, q4, qB⟩ := id hY) | (go_at_call 120; with_reducible refine (HT.out _).mono ?_; rintro _ w' ⟨rfl, hb⟩; replace hY := hY.later hb; clear hb; obtain ⟨q0, q1, q2, q3, q4, qB⟩ := id hY))
        go_meet
        exact ⟨rfl, hY⟩
  case rest =>
    obtain ⟨rfl, hY⟩ := hcut
    obtain rfl := hS.out
    clear hS hO hT HM
    obtain ⟨q0, q1, q2, q3, q4, qB⟩ := id hY
    have hR2 := hR.out
    clear hR
    unfold yOk at hR2
    cases long
    · have hk : shortOk neg s ex sig = true → ex = 0 := by unfold shortOk; intro h; simp at h; exact h.2.2.1
      simp only [Bool.false_eq_true, if_false] at hR2
      generalize shortOk neg s ex sig = ok at *
      clear HL
      have HR := Lib.hid hR2
      clear hR2
      cases ok
      · clear hk
        go_wp2_with fail
        go_ret
        exact ⟨ri (by rw [HR.out]; simp), hY.below⟩
      · have hk2 : ex = 0 := hk rfl
        clear hk
        by_cases d1 : sig < 0
        · go_wp2_with fail
          go_ret
          exact ⟨ri (by rw [HR.out, show decide (0 ≤ sig) = false from decide_eq_false (by omega)]; rfl), hY.below⟩
        · by_cases d2 : sig ≤ s.size + ex
          · go_wp2_with fail
            go_ret
            exact ⟨ri (by rw [HR.out, show decide (0 ≤ sig) = true from decide_eq_true (by omega), show decide (sig ≤ s.size + ex) = true from decide_eq_true (by omega)]; rfl), hY.below⟩
          · go_wp2_with fail
            go_ret
            exact ⟨ri (by rw [HR.out, show decide (sig ≤ s.size + ex) = false from decide_eq_false (by omega), Bool.and_false, Bool.and_false]; rfl), hY.below⟩
    · have hk : longOk s ex = true → 0 ≤ ex ∧ ex ≤ 16 := by unfold longOk; intro h; simp at h; omega
      simp only [if_true] at hR2
      generalize shortOk neg s ex sig = o2 at *
      generalize longOk s ex = ok at *
      have HR := Lib.hid hR2
      clear hR2
      cases ok
      · clear hk
        go_wp2_with (first | (go_at_call 121; with_reducible refine (HL.out _).mono ?_; rintro _ w' ⟨rfl, hb⟩; replace hY := hY.later hb; clear hb; obtain ⟨q0, q1, q2, q3, q4, qB⟩ := id hY))
        go_ret
        exact ⟨ri (by rw [HR.out]; simp), hY.below⟩
      · have hk2 := hk rfl
        clear hk
        by_cases d1 : sig < 0
        · go_wp2_with (first | (go_at_call 121; with_reducible refine (HL.out _).mono ?_; rintro _ w' ⟨rfl, hb⟩; replace hY := hY.later hb; clear hb; obtain ⟨q0, q1, q2, q3, q4, qB⟩ := id hY))
          go_ret
          exact ⟨ri (by rw [HR.out, show decide (0 ≤ sig) = false from decide_eq_false (by omega)]; rfl), hY.below⟩
        · by_cases d2 : sig ≤ s.size + ex
          · go_wp2_with (first | (go_at_call 121; with_reducible refine (HL.out _).mono ?_; rintro _ w' ⟨rfl, hb⟩; replace hY := hY.later hb; clear hb; obtain ⟨q0, q1, q2, q3, q4, qB⟩ := id hY))
            go_ret
            exact ⟨ri (by rw [HR.out, show decide (0 ≤ sig) = true from decide_eq_true (by omega), show decide (sig ≤ s.size + ex) = true from decide_eq_true (by omega)]; rfl), hY.below⟩
          · go_wp2_with (first | (go_at_call 121; with_reducible refine (HL.out _).mono ?_; rintro _ w' ⟨rfl, hb⟩; replace hY := hY.later hb; clear hb; obtain ⟨q0, q1, q2, q3, q4, qB⟩ := id hY))
            go_ret
            exact ⟨ri (by rw [HR.out, show decide (sig ≤ s.size + ex) = false from decide_eq_false (by omega), Bool.and_false, Bool.and_false]; rfl), hY.below⟩

/-- The value of a right year without X. -/
def yVal (neg : Bool) (s : ByteArray) (ex : Int) : Int := if neg then -magV s ex else magV s ex

set_option maxHeartbeats 4000000 in
theorem yValue_any (neg long : Bool) (s : ByteArray) (ex sig : Int) (w : World) (hs : s.size ≤ 1000) (hk : yOk neg long s ex sig = true) (hx : hasB 88 s = false) :
    Calls Tryz.prog 51 #[yv neg long s ex sig] w fun r w' => r = .returned (.tuple #[.int .i64 (yVal neg s ex), .int .i64 0]) ∧ Below w.heap.size w w' := by
  have hK := fun w => yCheck_any neg long s ex sig w hs
  have hM := fun w => yMasked_any neg long s ex sig w
  rw [hk] at hK
  rw [hx] at hM
  have HK := Lib.hid hK
  have HM := Lib.hid hM
  clear hK hM
  have hf : ∃ e : Nat, ex = e ∧ e ≤ 16 ∧ allB isDig s = true ∧ 1 ≤ s.size ∧ s.size ≤ 17 ∧ magV s ex ≤ 10000000000000000 := by
    cases long
    · obtain ⟨h1, h2, h3, _⟩ := yOk_short hk
      have hd := (dig_iff h2).1 hx
      have := decS_lt4 hd h1
      have hz : magV s 0 = decS s := by unfold magV p10; simp
      exact ⟨0, h3, by omega, hd, by omega, by omega, by rw [h3, hz]; omega⟩
    · obtain ⟨h1, h2, h3, h4, h5, h6, h7, _⟩ := yOk_long hk
      exact ⟨ex.toNat, by omega, by omega, h3, h1, h2, h7⟩
  obtain ⟨e, rfl, he, hd, h1, h2, hm⟩ := hf
  have hG := fun w => yMagnitude_any neg long s e sig w hd h1 h2 he
  have hm0 := magV_pos s e
  unfold yVal
  clear hd hk hx
  generalize magV s e = v at *
  rw [show magC v = (v, 0) by unfold magC; rw [if_pos hm]] at hG
  have HG := Lib.hid hG
  clear hG
  unfold yv at HK HM HG
  have hY := Ym.new neg long s e sig w 49
  cases neg
  · unfold yv
    go_enter Tryz.func51, Tryz.ntmps51
    go_upto_region 1 with (fail)
    generalize w.alloc (.cells #[.bool false, .bool long, .string s, .int .i64 e, .int .i64 sig] 49) = W0 at hY ⊢
    obtain ⟨q0, q1, q2, q3, q4, qB⟩ := id hY
    go_wp2_with (first | (go_at_call 79; with_reducible refine (HK.out _).mono ?_; rintro _ w' ⟨rfl, hb⟩; replace hY := hY.later hb; clear hb; obtain ⟨q0, q1, q2, q3, q4, qB⟩ := id hY) | (go_at_call 80; with_reducible refine (HM.out _).mono ?_; rintro _ w' ⟨rfl, hb⟩; replace hY := hY.later hb; clear hb; obtain ⟨q0, q1, q2, q3, q4, qB⟩ := id hY) | (go_at_call 81; with_reducible refine (HG.out _).mono ?_; rintro _ w' ⟨rfl, hb⟩; replace hY := hY.later hb; clear hb; obtain ⟨q0, q1, q2, q3, q4, qB⟩ := id hY))
    go_ret2
    exact ⟨rfl, hY.below⟩
  · unfold yv
    go_enter Tryz.func51, Tryz.ntmps51
    go_upto_region 1 with (fail)
    generalize w.alloc (.cells #[.bool true, .bool long, .string s, .int .i64 e, .int .i64 sig] 49) = W0 at hY ⊢
    obtain ⟨q0, q1, q2, q3, q4, qB⟩ := id hY
    go_wp2_with (first | (go_at_call 79; with_reducible refine (HK.out _).mono ?_; rintro _ w' ⟨rfl, hb⟩; replace hY := hY.later hb; clear hb; obtain ⟨q0, q1, q2, q3, q4, qB⟩ := id hY) | (go_at_call 80; with_reducible refine (HM.out _).mono ?_; rintro _ w' ⟨rfl, hb⟩; replace hY := hY.later hb; clear hb; obtain ⟨q0, q1, q2, q3, q4, qB⟩ := id hY) | (go_at_call 81; with_reducible refine (HG.out _).mono ?_; rintro _ w' ⟨rfl, hb⟩; replace hY := hY.later hb; clear hb; obtain ⟨q0, q1, q2, q3, q4, qB⟩ := id hY))
    go_ret2
    exact ⟨rfl, hY.below⟩
end Bk
end Go.Proofs.YtipjmaimjchckaaGreatDoor

/-! The tables that the walks of dates need; THE WALKS of package seasons, of ints.Add, months.Add, strconv.Atoi. -/
set_option linter.unusedSimpArgs false
set_option linter.unusedVariables false
set_option maxRecDepth 100000
namespace Go.Proofs.YtipjmaimjchckaaGreatDoor
open Go.RowKit Go.Lib
namespace Bk
open Un (ba bt ri rb ret2_ii ret2_bi ret3_iii CalOk)
open Cal

/-- The first month of a code, and how many there are. -/
def sFrom (c : Int) : Int := if c = 21 ∨ c = 25 ∨ c = 31 then 3 else if c = 22 ∨ c = 26 ∨ c = 32 then 6 else if c = 23 ∨ c = 27 ∨ c = 29 ∨ c = 39 then 9 else if c = 24 ∨ c = 28 ∨ c = 30 then 12 else if c = 34 then 4 else if c = 35 ∨ c = 41 then 7 else if c = 36 then 10 else if c = 38 then 5 else 1
def sMany (c : Int) : Int := if c ≤ 36 then 3 else if c ≤ 39 then 4 else 6
def spn (i : Nat) : Int := if i % 2 = 0 then sFrom (21 + i / 2) else sMany (21 + i / 2)

/-- The tables read as the program's text lays them. -/
structure WOk (w : World) : Prop where
  cal : CalOk w
  span : ∀ i : Nat, i < 42 → w.cell? ⟨1, i, none⟩ = some (.int .i64 (spn i))
  syn : ∃ t p, w.cell? ⟨4, 0, none⟩ = some (.iface t p)
  ran : ∃ t p, w.cell? ⟨5, 0, none⟩ = some (.iface t p)
theorem WOk.below {w w' : World} (h : WOk w) (hb : Below w.heap.size w w') : WOk w' :=
  ⟨h.cal.below hb, fun i hi => cell_later hb (h.span i hi), by obtain ⟨t, p, h⟩ := h.syn; exact ⟨t, p, cell_later hb h⟩, by obtain ⟨t, p, h⟩ := h.ran; exact ⟨t, p, cell_later hb h⟩⟩

theorem atoi_ok (s : ByteArray) (v : Int) (h : atoiAll s.data.toList = .ok v) (hs : s.size ≤ 1000) (W : World) :
    Calls Tryz.prog 134 #[.string s] W fun e w' => e = .returned (.tuple #[.int .i64 v, .nilIface]) ∧ Below W.heap.size W w' := by
  refine (Tryz.strconv_Atoi_ok s (by omega) v h W).mono ?_
  rintro e w' ⟨rfl, h⟩
  refine ⟨rfl, ?_⟩
  rcases h with rfl | ⟨t, rfl⟩
  · exact Below.refl _ _
  · exact Go.Lib.bytesWorld_below _ _ _
theorem atoi_bad (s : ByteArray) (h : ∀ v, atoiAll s.data.toList ≠ .ok v) (hs : s.size ≤ 1000) (W : World) (hk : WOk W) :
    Calls Tryz.prog 134 #[.string s] W fun e w' => (∃ x t p, e = .returned (.tuple #[.int .i64 x, .iface t p])) ∧ Below W.heap.size W w' := by
  obtain ⟨t1, p1, h1⟩ := hk.syn
  obtain ⟨t2, p2, h2⟩ := hk.ran
  by_cases hh : atoiAll s.data.toList = .range
  · refine (Tryz.strconv_Atoi_range s (by omega) hh _ W h2 (.inr ⟨_, _, rfl⟩)).mono ?_
    rintro e w' ⟨N, rfl, _, _, hb⟩
    exact ⟨⟨_, _, _, rfl⟩, hb⟩
  · refine (Tryz.strconv_Atoi_syntax s (by omega) h hh _ W h1 (.inr ⟨_, _, rfl⟩)).mono ?_
    rintro e w' ⟨N, rfl, _, _, hb⟩
    exact ⟨⟨_, _, _, rfl⟩, hb⟩

theorem addD (pn pa pb pe : Addr) (n a b : Int) (u : FrameMode) (w : World) (hn : w.cell? pn = some (.int .i64 n)) (ha : w.cell? pa = some (.int .i64 a)) (hb : w.cell? pb = some (.int .i64 b)) (h : decide (a < n) = decide (0 < b)) :
    CallsD Tryz.prog 173 #[.pointer (some pn), .pointer (some pa), .pointer (some pb), .pointer (some pe)] u w fun e u' w' => u' = u ∧ (e = .returned (.tuple #[]) ∧ w' = w) := by
  by_cases c : 0 < b
  · have c2 : a < n := by rw [decide_eq_true c] at h; exact of_decide_eq_true h
    clear h
    go_enter_d Tryz.func173, Tryz.ntmps173
    go_wp2
    go_end0
    exact ⟨rfl, rfl⟩
  · have c2 : ¬ a < n := by rw [decide_eq_false c] at h; exact of_decide_eq_false h
    clear h
    go_enter_d Tryz.func173, Tryz.ntmps173
    go_wp2
    go_end0
    exact ⟨rfl, rfl⟩

theorem intsAdd_ok (a b : Int) (w : World) (a0 : -9223372036854775808 ≤ a) (a1 : a < 9223372036854775808) (b0 : 0 < b) (b1 : b < 9223372036854775808) (h : a + b < 9223372036854775808) :
    Calls Tryz.prog 155 #[.int .i64 a, .int .i64 b] w fun r w' => r = .returned (.tuple #[.int .i64 (a + b), .int .i64 0]) ∧ Below w.heap.size w w' := by
  have hmf : ∀ (fn : Fn) (first cap : Array Value) (w : World), (Instr.makeFunc fn first cap).run Tryz.prog w = .ok (.func fn first cap) w := fun _ _ _ _ => rfl
  have hb0 : ¬ b = 0 := by omega
  go_enter_defers Tryz.func155, Tryz.ntmps155
  go_wp2
  refine leaves_cons (f := 173) (args := #[.pointer (some ⟨w.heap.size + 1 + 1, 0, none⟩), .pointer (some ⟨w.heap.size, 0, none⟩), .pointer (some ⟨w.heap.size + 1, 0, none⟩), .pointer (some ⟨w.heap.size + 1 + 1 + 1, 0, none⟩)]) (by simp) (by simp [go_sem]) ?_
  refine (addD _ _ _ _ (a + b) a b .returning _ (by simp [go_sem]) (by simp [go_sem]) (by simp [go_sem]) (by rw [decide_eq_true b0]; exact decide_eq_true (by omega))).mono ?_
  rintro e u' w'' ⟨rfl, rfl, rfl⟩
  simp [Leaves, settle, results, Tryz.results155, go_sem]
  exact ba (ba (ba (ba (Below.refl _ _) _) _) _) _

/-- What months.Add returns, for a few months more. -/
def madd (y m k : Int) : Int × Int := ((12 * y + (m - 1) + k) / 12, (12 * y + (m - 1) + k) % 12 + 1)
theorem monthsAdd_ok (y m k : Int) (w : World) (h0 : -10000000000000000 ≤ y) (h1 : y ≤ 10000000000000000) (m0 : 1 ≤ m) (m1 : m ≤ 12) (k0 : 0 < k) (k1 : k ≤ 12) (hz : (madd y m k).1 ≤ 10000000000000000) :
    Calls Tryz.prog 126 #[.int .i64 y, .int .i64 m, .int .i64 k] w fun r w' => r = .returned (.tuple #[.int .i64 (madd y m k).1, .int .i64 (madd y m k).2, .int .i64 0]) ∧ Below w.heap.size w w' := by
  have HC : Hid (∀ w : World, Calls Tryz.prog 133 #[.int .i64 y, .int .i64 m] w fun e w' => e = .returned (.int .i64 0) ∧ w = w') := Lib.hid (by
    intro w; have := Un.monthsCheck_any y m w
    unfold Un.mErr at this; rw [if_pos ⟨h0, h1⟩, if_pos ⟨m0, m1⟩] at this; exact this)
  have HA := Lib.hid (fun w => intsAdd_ok (12 * y + (m - 1)) k w (by omega) (by omega) k0 (by omega) (by omega))
  have hA1 : -9223372036854775808 ≤ 12 * y + (m - 1) + k := by omega
  have hA2 : 12 * y + (m - 1) + k < 9223372036854775808 := by omega
  have HD := Lib.hid (fun w => Un.intsDiv (12 * y + (m - 1) + k) 12 w (by omega) (by omega) hA1 hA2)
  have HM := Lib.hid (fun w => Un.intsMod (12 * y + (m - 1) + k) 12 w (by omega) (by omega) hA1 hA2)
  unfold madd at *
  have g0 : -10000000000000000 ≤ (12 * y + (m - 1) + k) / 12 := by omega
  have g1 : (12 * y + (m - 1) + k) / 12 ≤ 10000000000000000 := hz
  have HY := Lib.hid (fun w => Un.yearsCheck_ok ((12 * y + (m - 1) + k) / 12) w g0 g1)
  have g2 : 0 ≤ (12 * y + (m - 1) + k) % 12 := by omega
  have g3 : (12 * y + (m - 1) + k) % 12 < 12 := by omega
  clear hz g0 g1 hA1 hA2
  generalize (12 * y + (m - 1) + k) / 12 = q at *
  generalize (12 * y + (m - 1) + k) % 12 = r at *
  go_enter Tryz.func126, Tryz.ntmps126
  go_wp2_with (first
    | (go_at_call 133; with_reducible refine (HC.out _).mono ?_; rintro _ w' ⟨rfl, rfl⟩)
    | (go_at_call 155; with_reducible refine (HA.out _).mono ?_; rintro _ w' ⟨rfl, hb⟩)
    | (go_at_call 96; with_reducible refine (HD.out _).mono ?_; rintro _ w' ⟨rfl, rfl⟩)
    | (go_at_call 97; with_reducible refine (HM.out _).mono ?_; rintro _ w' ⟨rfl, rfl⟩)
    | (go_at_call 101; with_reducible refine (HY.out _).mono ?_; rintro _ w' ⟨rfl, rfl⟩))
  go_ret3
  exact ⟨rfl, hb⟩
theorem monthsAdd_no (y m k : Int) (w : World) (h0 : -10000000000000000 ≤ y) (h1 : y ≤ 10000000000000000) (m0 : 1 ≤ m) (m1 : m ≤ 12) (k0 : 0 < k) (k1 : k ≤ 12) (hz : 10000000000000000 < (madd y m k).1) :
    Calls Tryz.prog 126 #[.int .i64 y, .int .i64 m, .int .i64 k] w fun r w' => r = .returned (.tuple #[.int .i64 0, .int .i64 0, .int .i64 6]) ∧ Below w.heap.size w w' := by
  have HC : Hid (∀ w : World, Calls Tryz.prog 133 #[.int .i64 y, .int .i64 m] w fun e w' => e = .returned (.int .i64 0) ∧ w = w') := Lib.hid (by
    intro w; have := Un.monthsCheck_any y m w
    unfold Un.mErr at this; rw [if_pos ⟨h0, h1⟩, if_pos ⟨m0, m1⟩] at this; exact this)
  have HA := Lib.hid (fun w => intsAdd_ok (12 * y + (m - 1)) k w (by omega) (by omega) k0 (by omega) (by omega))
  have hA1 : -9223372036854775808 ≤ 12 * y + (m - 1) + k := by omega
  have hA2 : 12 * y + (m - 1) + k < 9223372036854775808 := by omega
  have HD := Lib.hid (fun w => Un.intsDiv (12 * y + (m - 1) + k) 12 w (by omega) (by omega) hA1 hA2)
  have HM := Lib.hid (fun w => Un.intsMod (12 * y + (m - 1) + k) 12 w (by omega) (by omega) hA1 hA2)
  unfold madd at *
  have g1 : 10000000000000000 < (12 * y + (m - 1) + k) / 12 := hz
  have HY := Lib.hid (fun w => Un.yearsCheck_no ((12 * y + (m - 1) + k) / 12) w (.inr g1))
  clear hz g1 hA1 hA2
  generalize (12 * y + (m - 1) + k) / 12 = q at *
  generalize (12 * y + (m - 1) + k) % 12 = r at *
  go_enter Tryz.func126, Tryz.ntmps126
  go_wp2_with (first
    | (go_at_call 133; with_reducible refine (HC.out _).mono ?_; rintro _ w' ⟨rfl, rfl⟩)
    | (go_at_call 155; with_reducible refine (HA.out _).mono ?_; rintro _ w' ⟨rfl, hb⟩)
    | (go_at_call 96; with_reducible refine (HD.out _).mono ?_; rintro _ w' ⟨rfl, rfl⟩)
    | (go_at_call 97; with_reducible refine (HM.out _).mono ?_; rintro _ w' ⟨rfl, rfl⟩)
    | (go_at_call 101; with_reducible refine (HY.out _).mono ?_; rintro _ w' ⟨rfl, rfl⟩))
  go_ret3
  exact ⟨rfl, hb⟩

theorem spn_at {c : Int} (h0 : 21 ≤ c) (h1 : c ≤ 41) : spn ((c - 21).toNat * 2) = sFrom c ∧ spn ((c - 21).toNat * 2 + 1) = sMany c := by
  unfold spn
  have e : ((c - 21).toNat * 2) / 2 = (c - 21).toNat := by omega
  have e2 : ((c - 21).toNat * 2 + 1) / 2 = (c - 21).toNat := by omega
  have e3 : (21 : Int) + (((c - 21).toNat : Nat) : Int) = c := by omega
  constructor
  · rw [if_pos (by omega), show (21 : Int) + ((((c - 21).toNat * 2 : Nat) : Int) / 2) = c by omega]
  · rw [if_neg (by omega), show (21 : Int) + ((((c - 21).toNat * 2 + 1 : Nat) : Int) / 2) = c by omega]

theorem seasMonths_any (c : Int) (w : World) (hk : WOk w) (h0 : 21 ≤ c) (h1 : c ≤ 41) :
    Calls Tryz.prog 125 #[.int .i64 c] w fun r w' => r = .returned (.tuple #[.int .i64 (sFrom c), .int .i64 (sMany c), .int .i64 0]) ∧ Below w.heap.size w w' := by
  have HC : Hid (∀ w : World, Calls Tryz.prog 135 #[.int .i64 c] w fun e w' => e = .returned (.int .i64 0) ∧ w = w') := Lib.hid (by
    intro w; have := seasCheck_any c w; rw [if_pos ⟨h0, h1⟩] at this; exact this)
  obtain ⟨n, rfl⟩ : ∃ n : Nat, c = (n : Int) + 21 := ⟨(c - 21).toNat, by omega⟩
  obtain ⟨e0, e1⟩ := spn_at h0 h1
  rw [show ((n : Int) + 21 - 21).toNat = n by omega] at e0 e1
  have s0 := hk.span (n * 2) (by omega)
  have s1 := hk.span (n * 2 + 1) (by omega)
  rw [e0] at s0
  rw [e1] at s1
  clear e0 e1 hk
  have l0 : n < 21 := by omega
  generalize sFrom ((n : Int) + 21) = a at *
  generalize sMany ((n : Int) + 21) = b at *
  go_enter Tryz.func125, Tryz.ntmps125
  go_wp2_with (go_at_call 135; with_reducible refine (HC.out _).mono ?_; rintro _ w' ⟨rfl, rfl⟩)
  go_quiet (fail)
  go_wp2
  go_ret3
  exact ⟨rfl, below_drewN (ba (Below.refl _ _) _) _⟩

/-- The last month of a season, and its year. -/
def sTo (c : Int) : Int := if sFrom c + sMany c - 1 ≤ 12 then sFrom c + sMany c - 1 else sFrom c + sMany c - 13
def sYear (y c : Int) : Int := if sFrom c + sMany c - 1 ≤ 12 then y else y + 1
def rv (lo hi : Int) : Value := .agg #[.int .i8 0, .int .i64 lo, .int .i8 0, .int .i64 hi]
theorem seasRun_ok (y c : Int) (w : World) (hk : WOk w) (h0 : -10000000000000000 ≤ y) (h1 : y ≤ 10000000000000000) (c0 : 21 ≤ c) (c1 : c ≤ 41) (hz : sYear y c ≤ 10000000000000000) :
    Calls Tryz.prog 82 #[.int .i64 y, .int .i64 c] w fun r w' => r = .returned (.tuple #[rv (st y + cum y (sFrom c)) (st (sYear y c) + cum (sYear y c) (sTo c + 1) - 1), .int .i64 0]) ∧ Below w.heap.size w w' := by
  have hf : 1 ≤ sFrom c ∧ sFrom c ≤ 12 ∧ 3 ≤ sMany c ∧ sMany c ≤ 6 ∧ sFrom c + sMany c ≤ 15 := by unfold sFrom sMany; (repeat' split) <;> omega
  have HM := Lib.hid (fun W hb => seasMonths_any c W (hk.below (w' := W) hb) c0 c1)
  have HS := Lib.hid (fun W hb => Un.monthsStart_ok y (sFrom c) W (hk.below (w' := W) hb).cal h0 h1 hf.1 hf.2.1)
  have HA : Hid (∀ w : World, Calls Tryz.prog 126 #[.int .i64 y, .int .i64 (sFrom c), .int .i64 (sMany c - 1)] w fun r w' => r = .returned (.tuple #[.int .i64 (sYear y c), .int .i64 (sTo c), .int .i64 0]) ∧ Below w.heap.size w w') := Lib.hid (by
    intro w
    have e : madd y (sFrom c) (sMany c - 1) = (sYear y c, sTo c) := by
      unfold madd sYear sTo
      split <;> (refine Prod.ext ?_ ?_ <;> simp only [] <;> omega)
    have := monthsAdd_ok y (sFrom c) (sMany c - 1) w h0 h1 hf.1 hf.2.1 (by omega) (by omega) (by rw [e]; exact hz)
    rw [e] at this; exact this)
  have y0 : -10000000000000000 ≤ sYear y c := by unfold sYear; split <;> omega
  have t0 : 1 ≤ sTo c ∧ sTo c ≤ 12 := by unfold sTo; split <;> omega
  have HE := Lib.hid (fun W hb => Un.monthsEnd_ok (sYear y c) (sTo c) W (hk.below (w' := W) hb).cal y0 hz t0.1 t0.2)
  generalize st y + cum y (sFrom c) = lo at *
  generalize st (sYear y c) + cum (sYear y c) (sTo c + 1) - 1 = hi at *
  obtain ⟨f0, f1, f2, f3, f4⟩ := hf
  generalize sFrom c = sf at *
  generalize sMany c = sm at *
  generalize sYear y c = sy at *
  generalize sTo c = so at *
  clear hk hz y0 t0
  unfold rv
  go_enter Tryz.func82, Tryz.ntmps82
  go_wp2_with fail
  refine (HM.out _ (ba (Below.refl _ _) _)).mono ?_; rintro _ w1 ⟨rfl, hb1⟩
  go_wp2_with fail
  refine (HS.out _ (bt (ba (Below.refl _ _) _) hb1)).mono ?_; rintro _ w2 ⟨rfl, hb2⟩
  go_wp2_with fail
  refine (HA.out _).mono ?_; rintro _ w3 ⟨rfl, hb3⟩
  go_wp2_with fail
  refine (HE.out _ (bt (bt (bt (ba (Below.refl _ _) _) hb1) hb2) hb3)).mono ?_; rintro _ w4 ⟨rfl, hb4⟩
  have hB := bt (bt (bt hb1 hb2) hb3) hb4
  obtain ⟨q0, q1, q2, q3, z0, z1, z2, z3⟩ := Un.run_cells hB
  go_wp2_with fail
  refine bodyPost_ret (v := .tuple #[.agg #[.int .i8 0, .int .i64 lo, .int .i8 0, .int .i64 hi], .int .i64 0]) (by simp [results, Tryz.results82, go_sem, q0, q1, q2, q3]) rfl ⟨rfl, ?_⟩
  exact ((((bt (ba (Below.refl _ _) _) hB).setCell (Nat.le_refl _) _).setCell (Nat.le_refl _) _).setCell (Nat.le_refl _) _).setCell (Nat.le_refl _) _

theorem seasRun_no (y c : Int) (w : World) (hk : WOk w) (h0 : -10000000000000000 ≤ y) (h1 : y ≤ 10000000000000000) (c0 : 21 ≤ c) (c1 : c ≤ 41) (hz : 10000000000000000 < sYear y c) :
    Calls Tryz.prog 82 #[.int .i64 y, .int .i64 c] w fun r w' => r = .returned (.tuple #[rv 0 0, .int .i64 6]) ∧ Below w.heap.size w w' := by
  have hf : 1 ≤ sFrom c ∧ sFrom c ≤ 12 ∧ 3 ≤ sMany c ∧ sMany c ≤ 6 ∧ sFrom c + sMany c ≤ 15 := by unfold sFrom sMany; (repeat' split) <;> omega
  have HM := Lib.hid (fun W hb => seasMonths_any c W (hk.below (w' := W) hb) c0 c1)
  have HS := Lib.hid (fun W hb => Un.monthsStart_ok y (sFrom c) W (hk.below (w' := W) hb).cal h0 h1 hf.1 hf.2.1)
  have HA : Hid (∀ w : World, Calls Tryz.prog 126 #[.int .i64 y, .int .i64 (sFrom c), .int .i64 (sMany c - 1)] w fun r w' => r = .returned (.tuple #[.int .i64 0, .int .i64 0, .int .i64 6]) ∧ Below w.heap.size w w') := Lib.hid (by
    intro w
    have e : (madd y (sFrom c) (sMany c - 1)).1 = sYear y c := by
      unfold madd sYear
      split <;> (simp only []; omega)
    exact monthsAdd_no y (sFrom c) (sMany c - 1) w h0 h1 hf.1 hf.2.1 (by omega) (by omega) (by rw [e]; exact hz))
  generalize st y + cum y (sFrom c) = lo at *
  obtain ⟨f0, f1, f2, f3, f4⟩ := hf
  generalize sFrom c = sf at *
  generalize sMany c = sm at *
  clear hk hz
  unfold rv
  go_enter Tryz.func82, Tryz.ntmps82
  go_wp2_with fail
  refine (HM.out _ (ba (Below.refl _ _) _)).mono ?_; rintro _ w1 ⟨rfl, hb1⟩
  go_wp2_with fail
  refine (HS.out _ (bt (ba (Below.refl _ _) _) hb1)).mono ?_; rintro _ w2 ⟨rfl, hb2⟩
  go_wp2_with fail
  refine (HA.out _).mono ?_; rintro _ w3 ⟨rfl, hb3⟩
  have hB := bt (bt hb1 hb2) hb3
  obtain ⟨q0, q1, q2, q3, z0, z1, z2, z3⟩ := Un.run_cells hB
  go_wp2_with fail
  refine bodyPost_ret (v := .tuple #[.agg #[.int .i8 0, .int .i64 0, .int .i8 0, .int .i64 0], .int .i64 6]) (by simp [results, Tryz.results82, go_sem, q0, q1, q2, q3]) rfl ⟨rfl, ?_⟩
  exact ((((bt (ba (Below.refl _ _) _) hB).setCell (Nat.le_refl _) _).setCell (Nat.le_refl _) _).setCell (Nat.le_refl _) _).setCell (Nat.le_refl _) _
end Bk
end Go.Proofs.YtipjmaimjchckaaGreatDoor

