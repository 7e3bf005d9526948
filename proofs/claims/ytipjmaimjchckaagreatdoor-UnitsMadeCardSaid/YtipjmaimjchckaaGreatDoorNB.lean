/- THE WALKS of the leaves below dates: powers of ten, products, seasons' codes, marks. -/
import Derived.Test.YtipjmaimjchckaaGreatDoorShelf
import Derived.Test.YtipjmaimjchckaaGreatDoorMG
import Derived.Test.YtipjmaimjchckaaGreatDoorNA
import Derived.Shelf.Strings.FuncGrows
import Derived.Laws.Runes
import Derived.Laws.RangeAny
import Derived.WalkMore
import Derived.Deep.QuietTactic
import Derived.BigQuiet
import Derived.Laws.Strings
/-! THE WALKS of the leaves below dates: powers of ten, products, seasons' codes, marks. -/
set_option linter.unusedSimpArgs false
set_option linter.unusedVariables false
set_option maxRecDepth 100000
namespace Go.Proofs.YtipjmaimjchckaaGreatDoor
open Go.RowKit
namespace Bk
open Un (ba bt ri rb ret2_ii ret2_bi)

theorem seasCheck_any (n : Int) (w : World) : Calls Tryz.prog 135 #[.int .i64 n] w fun r w' => r = .returned (.int .i64 (if 21 ≤ n ∧ n ≤ 41 then 0 else 7)) ∧ w = w' := by
  by_cases a : n < 21
  · go_enter Tryz.func135, Tryz.ntmps135
    go_wp2
    go_ret
    exact ⟨by first | rfl | exact ri (by rw [if_neg (by omega)]), rfl⟩
  · by_cases b : 42 ≤ n
    · go_enter Tryz.func135, Tryz.ntmps135
      go_wp2
      go_ret
      exact ⟨by first | rfl | exact ri (by rw [if_neg (by omega)]), rfl⟩
    · go_enter Tryz.func135, Tryz.ntmps135
      go_wp2
      go_ret
      exact ⟨by first | rfl | exact ri (by rw [if_pos (by omega)]), rfl⟩

theorem marksCheck_any (n : Int) (w : World) (h0 : 0 ≤ n) : Calls Tryz.prog 136 #[.int .u8 n] w fun r w' => r = .returned (.int .i64 (if n ≤ 3 then 0 else 9)) ∧ w = w' := by
  by_cases a : 3 < n
  · go_enter Tryz.func136, Tryz.ntmps136
    go_wp2
    go_ret
    exact ⟨by first | rfl | exact ri (by rw [if_neg (by omega)]), rfl⟩
  · go_enter Tryz.func136, Tryz.ntmps136
    go_wp2
    go_ret
    exact ⟨by first | rfl | exact ri (by rw [if_pos (by omega)]), rfl⟩

set_option maxHeartbeats 1000000 in
theorem marksAll_any (a b c n : Int) (w : World) (a0 : 0 ≤ a) (b0 : 0 ≤ b) (c0 : 0 ≤ c) (n0 : 1 ≤ n) (n1 : n ≤ 3) :
    Calls Tryz.prog 111 #[.agg #[.int .u8 a, .int .u8 b, .int .u8 c], .int .i64 n] w fun r w' => r = .returned (.int .i64 (marksE a b c n)) ∧ Below w.heap.size w w' := by
  have i0 : ∀ w, (Instr.index 50 (.agg #[.int .u8 a, .int .u8 b, .int .u8 c]) (.int .i64 0)).run Tryz.prog w = .ok (.int .u8 a) w := fun _ => by kernel_rfl
  have i1 : ∀ w, (Instr.index 50 (.agg #[.int .u8 a, .int .u8 b, .int .u8 c]) (.int .i64 1)).run Tryz.prog w = .ok (.int .u8 b) w := fun _ => by kernel_rfl
  have i2 : ∀ w, (Instr.index 50 (.agg #[.int .u8 a, .int .u8 b, .int .u8 c]) (.int .i64 2)).run Tryz.prog w = .ok (.int .u8 c) w := fun _ => by kernel_rfl
  by_cases h : marksE a b c n = 0
  · have hh : a ≤ 3 ∧ b ≤ 3 ∧ c ≤ 3 ∧ (n < 3 → c = 0) ∧ (n < 2 → b = 0) := by
      unfold marksE at h; split at h
      · assumption
      · cases h
    rw [h]; clear h
    obtain ⟨ha, hb, hc, h3, h2⟩ := hh
    have HA := fun w => marksCheck_any a w a0; rw [if_pos ha] at HA
    have HB := fun w => marksCheck_any b w b0; rw [if_pos hb] at HB
    have HC := fun w => marksCheck_any c w c0; rw [if_pos hc] at HC
    replace HA := Lib.hid HA; replace HB := Lib.hid HB; replace HC := Lib.hid HC
    obtain rfl | rfl | rfl : n = 1 ∨ n = 2 ∨ n = 3 := by omega
    · obtain rfl := h3 (by omega); obtain rfl := h2 (by omega)
      clear h3 h2
      go_enter Tryz.func111, Tryz.ntmps111
      go_wp2
      refine wp_loop_rounds 4 ?_
      rw [rounds_succ]
      go_wp2_with (go_at_call 136; refine (HA.out _).mono ?_; rintro e w' ⟨rfl, rfl⟩)
      rw [rounds_succ]
      go_wp2_with (go_at_call 136; refine (HB.out _).mono ?_; rintro e w' ⟨rfl, rfl⟩)
      rw [rounds_succ]
      go_wp2_with (go_at_call 136; refine (HC.out _).mono ?_; rintro e w' ⟨rfl, rfl⟩)
      rw [rounds_succ]
      go_wp2
      go_ret
      exact ⟨rfl, ba (Below.refl _ _) _⟩
    · obtain rfl := h3 (by omega)
      clear h3 h2
      go_enter Tryz.func111, Tryz.ntmps111
      go_wp2
      refine wp_loop_rounds 4 ?_
      rw [rounds_succ]
      go_wp2_with (go_at_call 136; refine (HA.out _).mono ?_; rintro e w' ⟨rfl, rfl⟩)
      rw [rounds_succ]
      go_wp2_with (go_at_call 136; refine (HB.out _).mono ?_; rintro e w' ⟨rfl, rfl⟩)
      rw [rounds_succ]
      go_wp2_with (go_at_call 136; refine (HC.out _).mono ?_; rintro e w' ⟨rfl, rfl⟩)
      rw [rounds_succ]
      go_wp2
      go_ret
      exact ⟨rfl, ba (Below.refl _ _) _⟩
    · clear h3 h2
      go_enter Tryz.func111, Tryz.ntmps111
      go_wp2
      refine wp_loop_rounds 4 ?_
      rw [rounds_succ]
      go_wp2_with (go_at_call 136; refine (HA.out _).mono ?_; rintro e w' ⟨rfl, rfl⟩)
      rw [rounds_succ]
      go_wp2_with (go_at_call 136; refine (HB.out _).mono ?_; rintro e w' ⟨rfl, rfl⟩)
      rw [rounds_succ]
      go_wp2_with (go_at_call 136; refine (HC.out _).mono ?_; rintro e w' ⟨rfl, rfl⟩)
      rw [rounds_succ]
      go_wp2
      go_ret
      exact ⟨rfl, ba (Below.refl _ _) _⟩
  · by_cases ha : 3 < a
    · skip
      have HA := fun w => marksCheck_any a w a0; rw [if_neg (by omega)] at HA; replace HA := Lib.hid HA
      clear h
      go_enter Tryz.func111, Tryz.ntmps111
      go_wp2
      refine wp_loop_rounds 4 ?_
      rw [rounds_succ]
      go_wp2_with (go_at_call 136; with_reducible refine (HA.out _).mono ?_; rintro e w' ⟨rfl, rfl⟩)
      go_ret
      exact ⟨ri (by unfold marksE; rw [if_neg (by omega)]), ba (Below.refl _ _) _⟩
    · obtain rfl | rfl | rfl : n = 1 ∨ n = 2 ∨ n = 3 := by omega
      · by_cases hb : b = 0
        · subst hb
          have hb0 : (0 : Int) ≤ 3 := by omega
          have hc : c ≠ 0 := by rintro rfl; exact h (by unfold marksE; rw [if_pos (by omega)])
          by_cases hc3 : c ≤ 3
          · skip
            have HA := fun w => marksCheck_any a w a0; rw [if_pos (by omega)] at HA; replace HA := Lib.hid HA
            have HB := fun w => marksCheck_any 0 w (Int.le_refl _); rw [if_pos (by omega)] at HB; replace HB := Lib.hid HB
            have HC := fun w => marksCheck_any c w c0; rw [if_pos (by omega)] at HC; replace HC := Lib.hid HC
            clear h
            go_enter Tryz.func111, Tryz.ntmps111
            go_wp2
            refine wp_loop_rounds 4 ?_
            rw [rounds_succ]
            go_wp2_with (go_at_call 136; (first | with_reducible refine (HA.out _).mono ?_ | with_reducible refine (HB.out _).mono ?_ | with_reducible refine (HC.out _).mono ?_); rintro e w' ⟨rfl, rfl⟩)
            rw [rounds_succ]
            go_wp2_with (go_at_call 136; (first | with_reducible refine (HA.out _).mono ?_ | with_reducible refine (HB.out _).mono ?_ | with_reducible refine (HC.out _).mono ?_); rintro e w' ⟨rfl, rfl⟩)
            rw [rounds_succ]
            go_wp2_with (go_at_call 136; (first | with_reducible refine (HA.out _).mono ?_ | with_reducible refine (HB.out _).mono ?_ | with_reducible refine (HC.out _).mono ?_); rintro e w' ⟨rfl, rfl⟩)
            go_ret
            exact ⟨ri (by unfold marksE; rw [if_neg (by omega)]), ba (Below.refl _ _) _⟩
          · skip
            have HA := fun w => marksCheck_any a w a0; rw [if_pos (by omega)] at HA; replace HA := Lib.hid HA
            have HB := fun w => marksCheck_any 0 w (Int.le_refl _); rw [if_pos (by omega)] at HB; replace HB := Lib.hid HB
            have HC := fun w => marksCheck_any c w c0; rw [if_neg (by omega)] at HC; replace HC := Lib.hid HC
            clear h
            go_enter Tryz.func111, Tryz.ntmps111
            go_wp2
            refine wp_loop_rounds 4 ?_
            rw [rounds_succ]
            go_wp2_with (go_at_call 136; (first | with_reducible refine (HA.out _).mono ?_ | with_reducible refine (HB.out _).mono ?_ | with_reducible refine (HC.out _).mono ?_); rintro e w' ⟨rfl, rfl⟩)
            rw [rounds_succ]
            go_wp2_with (go_at_call 136; (first | with_reducible refine (HA.out _).mono ?_ | with_reducible refine (HB.out _).mono ?_ | with_reducible refine (HC.out _).mono ?_); rintro e w' ⟨rfl, rfl⟩)
            rw [rounds_succ]
            go_wp2_with (go_at_call 136; (first | with_reducible refine (HA.out _).mono ?_ | with_reducible refine (HB.out _).mono ?_ | with_reducible refine (HC.out _).mono ?_); rintro e w' ⟨rfl, rfl⟩)
            go_ret
            exact ⟨ri (by unfold marksE; rw [if_neg (by omega)]), ba (Below.refl _ _) _⟩
        · by_cases hb3 : b ≤ 3
          · skip
            have HA := fun w => marksCheck_any a w a0; rw [if_pos (by omega)] at HA; replace HA := Lib.hid HA
            have HB := fun w => marksCheck_any b w b0; rw [if_pos (by omega)] at HB; replace HB := Lib.hid HB
            clear h
            go_enter Tryz.func111, Tryz.ntmps111
            go_wp2
            refine wp_loop_rounds 4 ?_
            rw [rounds_succ]
            go_wp2_with (go_at_call 136; (first | with_reducible refine (HA.out _).mono ?_ | with_reducible refine (HB.out _).mono ?_); rintro e w' ⟨rfl, rfl⟩)
            rw [rounds_succ]
            go_wp2_with (go_at_call 136; (first | with_reducible refine (HA.out _).mono ?_ | with_reducible refine (HB.out _).mono ?_); rintro e w' ⟨rfl, rfl⟩)
            go_ret
            exact ⟨ri (by unfold marksE; rw [if_neg (by omega)]), ba (Below.refl _ _) _⟩
          · skip
            have HA := fun w => marksCheck_any a w a0; rw [if_pos (by omega)] at HA; replace HA := Lib.hid HA
            have HB := fun w => marksCheck_any b w b0; rw [if_neg (by omega)] at HB; replace HB := Lib.hid HB
            clear h
            go_enter Tryz.func111, Tryz.ntmps111
            go_wp2
            refine wp_loop_rounds 4 ?_
            rw [rounds_succ]
            go_wp2_with (go_at_call 136; (first | with_reducible refine (HA.out _).mono ?_ | with_reducible refine (HB.out _).mono ?_); rintro e w' ⟨rfl, rfl⟩)
            rw [rounds_succ]
            go_wp2_with (go_at_call 136; (first | with_reducible refine (HA.out _).mono ?_ | with_reducible refine (HB.out _).mono ?_); rintro e w' ⟨rfl, rfl⟩)
            go_ret
            exact ⟨ri (by unfold marksE; rw [if_neg (by omega)]), ba (Below.refl _ _) _⟩
      · by_cases hb3 : b ≤ 3
        · have hc : c ≠ 0 := by rintro rfl; exact h (by unfold marksE; rw [if_pos (by omega)])
          by_cases hc3 : c ≤ 3
          · skip
            have HA := fun w => marksCheck_any a w a0; rw [if_pos (by omega)] at HA; replace HA := Lib.hid HA
            have HB := fun w => marksCheck_any b w b0; rw [if_pos (by omega)] at HB; replace HB := Lib.hid HB
            have HC := fun w => marksCheck_any c w c0; rw [if_pos (by omega)] at HC; replace HC := Lib.hid HC
            clear h
            go_enter Tryz.func111, Tryz.ntmps111
            go_wp2
            refine wp_loop_rounds 4 ?_
            rw [rounds_succ]
            go_wp2_with (go_at_call 136; (first | with_reducible refine (HA.out _).mono ?_ | with_reducible refine (HB.out _).mono ?_ | with_reducible refine (HC.out _).mono ?_); rintro e w' ⟨rfl, rfl⟩)
            rw [rounds_succ]
            go_wp2_with (go_at_call 136; (first | with_reducible refine (HA.out _).mono ?_ | with_reducible refine (HB.out _).mono ?_ | with_reducible refine (HC.out _).mono ?_); rintro e w' ⟨rfl, rfl⟩)
            rw [rounds_succ]
            go_wp2_with (go_at_call 136; (first | with_reducible refine (HA.out _).mono ?_ | with_reducible refine (HB.out _).mono ?_ | with_reducible refine (HC.out _).mono ?_); rintro e w' ⟨rfl, rfl⟩)
            go_ret
            exact ⟨ri (by unfold marksE; rw [if_neg (by omega)]), ba (Below.refl _ _) _⟩
          · skip
            have HA := fun w => marksCheck_any a w a0; rw [if_pos (by omega)] at HA; replace HA := Lib.hid HA
            have HB := fun w => marksCheck_any b w b0; rw [if_pos (by omega)] at HB; replace HB := Lib.hid HB
            have HC := fun w => marksCheck_any c w c0; rw [if_neg (by omega)] at HC; replace HC := Lib.hid HC
            clear h
            go_enter Tryz.func111, Tryz.ntmps111
            go_wp2
            refine wp_loop_rounds 4 ?_
            rw [rounds_succ]
            go_wp2_with (go_at_call 136; (first | with_reducible refine (HA.out _).mono ?_ | with_reducible refine (HB.out _).mono ?_ | with_reducible refine (HC.out _).mono ?_); rintro e w' ⟨rfl, rfl⟩)
            rw [rounds_succ]
            go_wp2_with (go_at_call 136; (first | with_reducible refine (HA.out _).mono ?_ | with_reducible refine (HB.out _).mono ?_ | with_reducible refine (HC.out _).mono ?_); rintro e w' ⟨rfl, rfl⟩)
            rw [rounds_succ]
            go_wp2_with (go_at_call 136; (first | with_reducible refine (HA.out _).mono ?_ | with_reducible refine (HB.out _).mono ?_ | with_reducible refine (HC.out _).mono ?_); rintro e w' ⟨rfl, rfl⟩)
            go_ret
            exact ⟨ri (by unfold marksE; rw [if_neg (by omega)]), ba (Below.refl _ _) _⟩
        · skip
          have HA := fun w => marksCheck_any a w a0; rw [if_pos (by omega)] at HA; replace HA := Lib.hid HA
          have HB := fun w => marksCheck_any b w b0; rw [if_neg (by omega)] at HB; replace HB := Lib.hid HB
          clear h
          go_enter Tryz.func111, Tryz.ntmps111
          go_wp2
          refine wp_loop_rounds 4 ?_
          rw [rounds_succ]
          go_wp2_with (go_at_call 136; (first | with_reducible refine (HA.out _).mono ?_ | with_reducible refine (HB.out _).mono ?_); rintro e w' ⟨rfl, rfl⟩)
          rw [rounds_succ]
          go_wp2_with (go_at_call 136; (first | with_reducible refine (HA.out _).mono ?_ | with_reducible refine (HB.out _).mono ?_); rintro e w' ⟨rfl, rfl⟩)
          go_ret
          exact ⟨ri (by unfold marksE; rw [if_neg (by omega)]), ba (Below.refl _ _) _⟩
      · by_cases hb3 : b ≤ 3
        · have hc : ¬ c ≤ 3 := by intro hc; exact h (by unfold marksE; rw [if_pos (by omega)])
          have HA := fun w => marksCheck_any a w a0; rw [if_pos (by omega)] at HA; replace HA := Lib.hid HA
          have HB := fun w => marksCheck_any b w b0; rw [if_pos (by omega)] at HB; replace HB := Lib.hid HB
          have HC := fun w => marksCheck_any c w c0; rw [if_neg (by omega)] at HC; replace HC := Lib.hid HC
          clear h
          go_enter Tryz.func111, Tryz.ntmps111
          go_wp2
          refine wp_loop_rounds 4 ?_
          rw [rounds_succ]
          go_wp2_with (go_at_call 136; (first | with_reducible refine (HA.out _).mono ?_ | with_reducible refine (HB.out _).mono ?_ | with_reducible refine (HC.out _).mono ?_); rintro e w' ⟨rfl, rfl⟩)
          rw [rounds_succ]
          go_wp2_with (go_at_call 136; (first | with_reducible refine (HA.out _).mono ?_ | with_reducible refine (HB.out _).mono ?_ | with_reducible refine (HC.out _).mono ?_); rintro e w' ⟨rfl, rfl⟩)
          rw [rounds_succ]
          go_wp2_with (go_at_call 136; (first | with_reducible refine (HA.out _).mono ?_ | with_reducible refine (HB.out _).mono ?_ | with_reducible refine (HC.out _).mono ?_); rintro e w' ⟨rfl, rfl⟩)
          go_ret
          exact ⟨ri (by unfold marksE; rw [if_neg (by omega)]), ba (Below.refl _ _) _⟩
        · skip
          have HA := fun w => marksCheck_any a w a0; rw [if_pos (by omega)] at HA; replace HA := Lib.hid HA
          have HB := fun w => marksCheck_any b w b0; rw [if_neg (by omega)] at HB; replace HB := Lib.hid HB
          clear h
          go_enter Tryz.func111, Tryz.ntmps111
          go_wp2
          refine wp_loop_rounds 4 ?_
          rw [rounds_succ]
          go_wp2_with (go_at_call 136; (first | with_reducible refine (HA.out _).mono ?_ | with_reducible refine (HB.out _).mono ?_); rintro e w' ⟨rfl, rfl⟩)
          rw [rounds_succ]
          go_wp2_with (go_at_call 136; (first | with_reducible refine (HA.out _).mono ?_ | with_reducible refine (HB.out _).mono ?_); rintro e w' ⟨rfl, rfl⟩)
          go_ret
          exact ⟨ri (by unfold marksE; rw [if_neg (by omega)]), ba (Below.refl _ _) _⟩

set_option maxHeartbeats 400000 in
theorem pow10_any (n : Nat) (w : World) (h : n ≤ 18) : Calls Tryz.prog 123 #[.int .i64 n] w fun r w' => r = .returned (.tuple #[.int .i64 (p10 n), .int .i64 0]) ∧ w = w' := by
  go_enter Tryz.func123, Tryz.ntmps123
  go_wp2
  go_loop [4, 10] (fun p i => ∃ k : Nat, k ≤ n ∧ i = .int .i64 k ∧ p = .int .i64 (p10 k)) (fun _ i => n - (intOf i).toNat)
  case atStart => exact ⟨0, Nat.zero_le _, rfl, rfl⟩
  case round =>
    obtain ⟨k, hk, rfl, rfl⟩ := hrel
    by_cases hlt : k < n
    · have hb := p10_bd (k + 1) (by omega)
      have hs := p10_succ k
      have hb2 : p10 k * 10 ≤ 1000000000000000000 ∧ 1 ≤ p10 k * 10 := by rw [← hs]; omega
      have HS := Lib.hid hs
      clear hs hb
      go_wp2
      go_round
      case rel => exact ⟨k + 1, by omega, by go_num, by rw [HS.out]⟩
      case measure => simp [intOf]; omega
    · have e : k = n := by omega
      subst e
      go_wp2
      go_ret2
      exact ⟨rfl, rfl⟩

theorem pow10_no (n : Int) (w : World) (h : n < 0 ∨ 18 < n) : Calls Tryz.prog 123 #[.int .i64 n] w fun r w' => r = .returned (.tuple #[.int .i64 0, .int .i64 (if n < 0 then 1 else 15)]) ∧ w = w' := by
  rcases h with h | h
  · go_enter Tryz.func123, Tryz.ntmps123
    go_wp2
    go_ret2
    exact ⟨by first | rfl | rw [if_pos h], rfl⟩
  · have h' : ¬ n < 0 := by omega
    go_enter Tryz.func123, Tryz.ntmps123
    go_wp2
    go_ret2
    exact ⟨by first | rfl | rw [if_neg (by omega)], rfl⟩
end Bk
end Go.Proofs.YtipjmaimjchckaaGreatDoor

/-! THE WALKS of strings.IndexRune, ContainsRune at a text of ASCII bytes, whatever rune; of yearforms.only. -/
set_option linter.unusedSimpArgs false
set_option linter.unusedVariables false
set_option maxRecDepth 100000
namespace Go.Proofs.YtipjmaimjchckaaGreatDoor
open Go.RowKit Go.Lib
namespace Bk
open Un (ba bt ri rb)

theorem below_drewN {B : Nat} {w W : World} (h : Below B w W) : ∀ n, Below B w (W.drewN n)
  | 0 => h
  | n + 1 => (below_drewN h n).drew

def Asc (s : ByteArray) : Prop := ∀ i (h : i < s.size), (s[i]'h).toNat < 128

theorem indexByte_no (l : List UInt8) (c : UInt8) (h : ∀ b ∈ l, b.toNat < 128) (hc : 128 ≤ c.toNat) : Lib.indexByte l c = -1 := by
  induction l with
  | nil => rfl
  | cons b l ih =>
    have hb := h b (List.mem_cons_self ..)
    have hne : (b == c) = false := by
      rw [beq_eq_false_iff_ne]; rintro rfl; omega
    unfold Lib.indexByte
    rw [ih (fun x hx => h x (List.mem_cons_of_mem _ hx)), hne]
    rfl

theorem asc_extract {s : ByteArray} (hs : Asc s) (a b : Nat) : ∀ x ∈ (s.extract a b).data.toList, x.toNat < 128 := by
  intro x hx
  have h1 : x ∈ s.data.toList := by
    rw [ByteArray.data_extract, Array.toList_extract] at hx
    unfold List.extract at hx
    exact List.mem_of_mem_drop (List.mem_of_mem_take hx)
  obtain ⟨i, hi, rfl⟩ := List.getElem_of_mem h1
  have := hs i (by simpa using hi)
  rwa [ByteArray.getElem_eq_getElem_data] at this
theorem encode_last (r : Int) (e2 : 2 ≤ (Utf8.encode r).size) (eb : 128 ≤ ((Utf8.encode r)[(Utf8.encode r).size - 1]'(by omega)).toNat) : ∀ k (h : k < (Utf8.encode r).size), k + 1 = (Utf8.encode r).size → 128 ≤ ((Utf8.encode r)[k]'h).toNat := by
  intro k h e
  have hk : k = (Utf8.encode r).size - 1 := by omega
  subst hk
  exact eb

set_option maxHeartbeats 1000000 in
theorem indexRune_err (s : ByteArray) (hs : Asc s) (h5 : s.size ≤ 1000) (w : World) :
    Calls Tryz.prog 164 #[.string s, .int .i32 65533] w fun e w' => e = .returned (.int .i64 (-1)) ∧ Below w.heap.size w w' := by
  have HS := Lib.hid hs
  clear hs
  go_enter Tryz.func164, Tryz.ntmps164
  go_wp2
  go_loopg [] s.size (fun gf wx => ∃ pos : Nat, wx.heap[w.heap.size]? = some (.stringIter s pos) ∧ Below w.heap.size w wx ∧ s.size ≤ pos + gf)
  case atStart => exact ⟨0, World.iter_heap w s 0, (Below.refl _ w).alloc (Nat.le_refl _) _, by omega⟩
  case round =>
    obtain ⟨pos, hit, hbw, hfu⟩ := hrel
    by_cases hps : pos < s.size
    · obtain ⟨g', rfl⟩ : ∃ g', gk = g' + 1 := ⟨gk - 1, by omega⟩
      have hnx : ∀ ty, (Instr.next (.pointer (some ⟨w.heap.size, 0, none⟩)) true ty).run Tryz.prog wr = _ := fun ty => Lib.run_next_any_at wr w.heap.size s pos ty hit hps
      have hde := decode_ascii s pos hps (HS.out pos hps)
      have hlt := HS.out pos hps
      rw [hde] at hnx
      generalize (s[pos]'hps).toNat = R at hnx hlt hde
      have hit2 := Lib.iterAt_heap wr w.heap.size s pos (pos + 1) hit
      have hbw2 := Lib.below_iterAt hbw (k := w.heap.size) (Nat.le_refl _) s (pos + 1)
      clear hde
      go_wp2
      go_roundg g'
      case measure => omega
      case rel => exact ⟨pos + 1, hit2, hbw2, by omega⟩
    · have hnx : ∀ ty, (Instr.next (.pointer (some ⟨w.heap.size, 0, none⟩)) true ty).run Tryz.prog wr = _ := fun ty => Lib.run_next_end_at wr w.heap.size s pos ty hit hps
      go_wp2
      go_ret
      exact ⟨rfl, hbw⟩

set_option maxHeartbeats 1000000 in
theorem indexRune_no (s : ByteArray) (hs : Asc s) (h4 : 4 ≤ s.size) (h5 : s.size ≤ 1000) (r : Int) (h0 : 128 ≤ r) (h1 : r ≤ 1114111) (w : World) :
    Calls Tryz.prog 164 #[.string s, .int .i32 r] w fun e w' => e = .returned (.int .i64 (-1)) ∧ Below w.heap.size w w' := by
  by_cases hr : r = 65533
  · subst hr; exact indexRune_err s hs h5 w
  · have HV := fun w => (Tryz.utf8_ValidRune r w).mono (fun _ _ h => (⟨h.1, h.2.symm⟩ : _ ∧ w = _))
    cases hv : Lib.validRune r
    · rw [hv] at HV
      replace HV := Lib.hid HV
      clear hv hs
      go_enter Tryz.func164, Tryz.ntmps164
      go_wp2_with (go_at_call 182; with_reducible refine (HV.out _).mono ?_; rintro _ w' ⟨rfl, rfl⟩)
      go_ret
      exact ⟨rfl, Below.refl _ _⟩
    · rw [hv] at HV
      replace HV := Lib.hid HV
      have hv2 : Utf8.valid r = true := by
        unfold Lib.validRune at hv
        have := of_decide_eq_true hv
        unfold Utf8.valid
        simp
        omega
      obtain ⟨e2, e4, eb⟩ := encode_facts r hv2 h0
      have eb := eb (by omega)
      have HB : ∀ (t : ByteArray) (c : UInt8) (w : World), (∀ b ∈ t.data.toList, b.toNat < 128) → 128 ≤ c.toNat → Calls Tryz.prog 181 #[.string t, .int .u8 c.toNat] w fun e w' => e = .returned (.int .i64 (-1)) ∧ w = w' := by
        intro t c w h hc
        have := Tryz.strings_IndexByte t (c.toNat : Int) w
        rw [show ((c.toNat : Int)).toNat.toUInt8 = c by rw [Int.toNat_natCast]; exact UInt8.ofNat_toNat] at this
        rw [indexByte_no _ _ h hc] at this
        exact this.mono (fun _ _ h => ⟨h.1, h.2.symm⟩)
      replace HB := Lib.hid HB
      clear hv hv2
      have hasc := hs
      have HX : ∀ k : Nat, ∀ b ∈ (s.extract k s.size).data.toList, b.toNat < 128 := fun k => asc_extract hs k s.size
      replace HX := Lib.hid HX
      have l1 : 1 < s.size := by omega
      have l2 : 2 < s.size := by omega
      have l3 : 3 < s.size := by omega
      have g1 := hs 1 l1
      have g2 := hs 2 l2
      have g3 := hs 3 l3
      have HE := Lib.hid (encode_last r e2 eb)
      clear hasc hs
      obtain ha | ha | ha : (Utf8.encode r).size = 2 ∨ (Utf8.encode r).size = 3 ∨ (Utf8.encode r).size = 4 := by omega
      · have hk : 1 < (Utf8.encode r).size := by omega
        have hlast : 128 ≤ ((Utf8.encode r)[1]'hk).toNat := HE.out 1 hk (by omega)
        clear HE e2 e4 eb
        go_enter Tryz.func164, Tryz.ntmps164
        go_wp2_with (go_at_call 182; with_reducible refine (HV.out _).mono ?_; rintro _ w' ⟨rfl, rfl⟩)
        go_step3
        go_wp2
        go_loopw [9, 10] (fun s9 s10 wx => s9 = .int .i64 1 ∧ s10 = .int .i64 0 ∧ wx = w) (fun _ _ _ => 1)
        case atStart => exact ⟨by first | rfl | rw [ha], rfl, rfl⟩
        case round =>
          obtain ⟨rfl, rfl, rfl⟩ := hrel
          have hne : (((s[1]'l1).toNat : Int) != (((Utf8.encode r)[1]'hk).toNat : Int)) = true := by rw [bne_iff_ne]; omega
          go_wp2
          go_step3
          go_wp2
          go_quiet (fail)
          go_wp2
          go_quiet ((go_at_call 181; (refine (HB.out _ _ _ (HX.out _) hlast).mono ?_); rintro e w' ⟨rfl, rfl⟩; exact ⟨rfl, _, rfl⟩))
          go_wp2
          rw [Exit.noGoto_ret]
          go_wp2
          rw [Exit.noGoto_ret]
          go_ret
          exact ⟨rfl, below_drewN (Below.refl _ _) _⟩
      · have hk : 2 < (Utf8.encode r).size := by omega
        have hlast : 128 ≤ ((Utf8.encode r)[2]'hk).toNat := HE.out 2 hk (by omega)
        clear HE e2 e4 eb
        go_enter Tryz.func164, Tryz.ntmps164
        go_wp2_with (go_at_call 182; with_reducible refine (HV.out _).mono ?_; rintro _ w' ⟨rfl, rfl⟩)
        go_step3
        go_wp2
        go_loopw [9, 10] (fun s9 s10 wx => s9 = .int .i64 2 ∧ s10 = .int .i64 0 ∧ wx = w) (fun _ _ _ => 1)
        case atStart => exact ⟨by first | rfl | rw [ha], rfl, rfl⟩
        case round =>
          obtain ⟨rfl, rfl, rfl⟩ := hrel
          have hne : (((s[2]'l2).toNat : Int) != (((Utf8.encode r)[2]'hk).toNat : Int)) = true := by rw [bne_iff_ne]; omega
          go_wp2
          go_step3
          go_wp2
          go_quiet (fail)
          go_wp2
          go_quiet ((go_at_call 181; (refine (HB.out _ _ _ (HX.out _) hlast).mono ?_); rintro e w' ⟨rfl, rfl⟩; exact ⟨rfl, _, rfl⟩))
          go_wp2
          rw [Exit.noGoto_ret]
          go_wp2
          rw [Exit.noGoto_ret]
          go_ret
          exact ⟨rfl, below_drewN (Below.refl _ _) _⟩
      · have hk : 3 < (Utf8.encode r).size := by omega
        have hlast : 128 ≤ ((Utf8.encode r)[3]'hk).toNat := HE.out 3 hk (by omega)
        clear HE e2 e4 eb
        go_enter Tryz.func164, Tryz.ntmps164
        go_wp2_with (go_at_call 182; with_reducible refine (HV.out _).mono ?_; rintro _ w' ⟨rfl, rfl⟩)
        go_step3
        go_wp2
        go_loopw [9, 10] (fun s9 s10 wx => s9 = .int .i64 3 ∧ s10 = .int .i64 0 ∧ wx = w) (fun _ _ _ => 1)
        case atStart => exact ⟨by first | rfl | rw [ha], rfl, rfl⟩
        case round =>
          obtain ⟨rfl, rfl, rfl⟩ := hrel
          have hne : (((s[3]'l3).toNat : Int) != (((Utf8.encode r)[3]'hk).toNat : Int)) = true := by rw [bne_iff_ne]; omega
          go_wp2
          go_step3
          go_wp2
          go_quiet (fail)
          go_wp2
          go_quiet ((go_at_call 181; (refine (HB.out _ _ _ (HX.out _) hlast).mono ?_); rintro e w' ⟨rfl, rfl⟩; exact ⟨rfl, _, rfl⟩))
          go_wp2
          rw [Exit.noGoto_ret]
          go_wp2
          rw [Exit.noGoto_ret]
          go_ret
          exact ⟨rfl, below_drewN (Below.refl _ _) _⟩

theorem indexByte_any (l : List UInt8) (c : UInt8) : (-1 ≤ Lib.indexByte l c) ∧ (decide (0 ≤ Lib.indexByte l c) = l.any fun b => decide ((b.toNat : Int) = (c.toNat : Int))) := by
  induction l with
  | nil => exact ⟨Int.le_refl (-1), rfl⟩
  | cons b l ih =>
    obtain ⟨i1, i2⟩ := ih
    unfold Lib.indexByte
    rw [List.any_cons, ← i2]
    by_cases h : b = c
    · subst h
      simp
    · have hne : (b == c) = false := by rw [beq_eq_false_iff_ne]; exact h
      have hn : ¬ ((b.toNat : Int) = (c.toNat : Int)) := by
        intro e; exact h (UInt8.toNat_inj.1 (by omega))
      rw [hne, decide_eq_false hn, Bool.false_or]
      simp only [Bool.false_eq_true, if_false]
      by_cases h2 : Lib.indexByte l c = -1
      · rw [h2]; simp
      · have : (Lib.indexByte l c == -1) = false := by rw [beq_eq_false_iff_ne]; exact h2
        rw [this]
        simp only [Bool.false_eq_true, if_false]
        refine ⟨by omega, ?_⟩
        rw [Bool.eq_iff_iff, decide_eq_true_iff, decide_eq_true_iff]
        omega
theorem indexByte_has (s : ByteArray) (c : UInt8) : decide (0 ≤ Lib.indexByte s.data.toList c) = hasB c.toNat s := (indexByte_any _ _).2

/-- Whether a text of ASCII bytes has a rune. -/
theorem containsRune_any (s : ByteArray) (hs : Asc s) (h4 : 4 ≤ s.size) (h5 : s.size ≤ 1000) (r : Nat) (h1 : r ≤ 1114111) (w : World) :
    Calls Tryz.prog 142 #[.string s, .int .i32 r] w fun e w' => e = .returned (.bool (decide (r < 128) && hasB r s)) ∧ Below w.heap.size w w' := by
  by_cases h : r < 128
  · refine (Tryz.strings_ContainsRune_ascii s r w (by omega) (by omega)).mono ?_
    rintro e w' ⟨rfl, rfl⟩
    refine ⟨?_, Below.refl _ _⟩
    rw [indexByte_has, decide_eq_true h, Bool.true_and, Int.toNat_natCast]
    have : ((r.toUInt8).toNat : Int) = (r : Int) := by simp; omega
    rw [this]
  · have HI := Lib.hid (fun w => indexRune_no s hs h4 h5 r (by omega) (by omega) w)
    rw [decide_eq_false h, Bool.false_and]
    clear hs
    go_enter Tryz.func142, Tryz.ntmps142
    go_wp2_with (go_at_call 164; with_reducible refine (HI.out _).mono ?_; rintro _ w' ⟨rfl, hb⟩)
    go_ret
    exact ⟨rfl, hb⟩

/-- The function value that yearforms.only gives to IndexFunc. -/
theorem only_pred (s : ByteArray) (hs : Asc s) (h4 : 4 ≤ s.size) (h5 : s.size ≤ 1000) (B : Nat) (w : World) (hB : B < w.heap.size) (hcell : w.cell? ⟨B, 0, none⟩ = some (.string s)) :
    PredGrows Tryz.prog 141 #[.pointer (some ⟨B, 0, none⟩)] (fun x => !(decide (x < 128) && hasB x s)) w := fun W x hx hb => by
  have hc : W.cell? ⟨B, 0, none⟩ = some (.string s) := (hb.cell (p := ⟨B, 0, none⟩) hB).trans hcell
  have HC := Lib.hid (fun w => containsRune_any s hs h4 h5 x hx w)
  clear hs hb hcell
  obtain ⟨t, ht⟩ : ∃ t, t = (decide (x < 128) && hasB x s) := ⟨_, rfl⟩
  rw [← ht] at HC
  replace ht := Lib.hid ht
  show Calls Tryz.prog 141 #[.int .i32 x, .pointer (some ⟨B, 0, none⟩)] W _
  go_enter Tryz.func141, Tryz.ntmps141
  go_wp2_with (go_at_call 142; with_reducible refine (HC.out _).mono ?_; rintro _ w' ⟨rfl, hb⟩)
  go_ret
  exact ⟨by rw [← ht.out]; rfl, hb⟩

set_option maxHeartbeats 1000000 in
theorem only_any (s set : ByteArray) (q : Int → Bool) (hs : Asc set) (h4 : 4 ≤ set.size) (h5 : set.size ≤ 1000) (hq : ∀ x : Nat, x < 128 → hasB x set = q x) (hq2 : ∀ x : Int, q x = true → x < 128) (w : World) :
    Calls Tryz.prog 119 #[.string s, .string set] w fun r w' => r = .returned (.bool (allB q s)) ∧ Below w.heap.size w w' := by
  have eg : ∀ args w, (callFunc 141 args).run Tryz.prog w = .ok (.enter 141 args) w := enters_of Tryz.func141 (by kernel_rfl) rfl
  have hcon := Tryz.strings_IndexFunc_grows 141 #[.pointer (some ⟨w.heap.size, 0, none⟩)] eg _ s (w.alloc (.cells #[.string set] 9)) (only_pred set hs h4 h5 w.heap.size _ (by simp) (by simp))
  have hi := idx_only q (fun x => !(decide (x < 128) && hasB x set)) (by intro x hx; rw [decide_eq_true hx, Bool.true_and, hq x hx]) (by intro x hx; rw [decide_eq_false (by omega), Bool.false_and]; rfl) hq2 s
  rw [← hi]
  generalize Lib.idxFunc (fun x => !(decide (x < 128) && hasB x set)) true s = z at hcon ⊢
  clear hi hs hq hq2
  go_enter Tryz.func119, Tryz.ntmps119
  go_wp2_with (go_at_call 140; refine hcon.mono ?_; rintro _ w' ⟨rfl, hb⟩)
  go_ret
  exact ⟨rfl, bt (ba (Below.refl _ _) _) hb⟩

def digS : ByteArray := ⟨#[48, 49, 50, 51, 52, 53, 54, 55, 56, 57]⟩
def xdigS : ByteArray := ⟨#[88, 48, 49, 50, 51, 52, 53, 54, 55, 56, 57]⟩
theorem digS_asc : Asc digS := by unfold Asc; decide
theorem xdigS_asc : Asc xdigS := by unfold Asc; decide
theorem digS_has : ∀ x : Nat, x < 128 → hasB x digS = isDig x := by decide
theorem xdigS_has : ∀ x : Nat, x < 128 → hasB x xdigS = isDigX x := by decide
theorem onlyDig_any (s : ByteArray) (w : World) : Calls Tryz.prog 119 #[.string s, .string digS] w fun r w' => r = .returned (.bool (allB isDig s)) ∧ Below w.heap.size w w' :=
  only_any s digS isDig digS_asc (by decide) (by decide) digS_has (by intro x h; unfold isDig at h; have := of_decide_eq_true h; omega) w
theorem onlyX_any (s : ByteArray) (w : World) : Calls Tryz.prog 119 #[.string s, .string xdigS] w fun r w' => r = .returned (.bool (allB isDigX s)) ∧ Below w.heap.size w w' :=
  only_any s xdigS isDigX xdigS_asc (by decide) (by decide) xdigS_has (by intro x h; unfold isDigX at h; simp at h; omega) w
end Bk
end Go.Proofs.YtipjmaimjchckaaGreatDoor

/-! THE WALKS of years as they are written (package yearforms): products, magnitude. -/
set_option linter.unusedSimpArgs false
set_option linter.unusedVariables false
namespace Go.Proofs.YtipjmaimjchckaaGreatDoor
open Go.RowKit
namespace Bk
open Un (ba bt ri rb ret2_ii ret2_bi)

theorem size_pos (n : Int) (w : World) (h0 : 0 ≤ n) (h1 : n < 9223372036854775808) : Calls Tryz.prog 153 #[.int .i64 n] w fun r w' => r = .returned (.int .u64 n) ∧ w = w' := by
  go_enter Tryz.func153, Tryz.ntmps153
  go_wp2
  go_ret
  exact ⟨ri (by omega), rfl⟩

theorem signed_pos (n : Int) (w : World) (h0 : 0 ≤ n) (h1 : n < 18446744073709551616) : Calls Tryz.prog 154 #[.int .u64 n, .bool false] w fun r w' => r = .returned (.tuple #[.int .i64 (if n ≤ 9223372036854775807 then n else 0), .int .i64 (if n ≤ 9223372036854775807 then 0 else 15)]) ∧ w = w' := by
  by_cases c : n ≤ 9223372036854775807
  · rw [if_pos c, if_pos c]
    go_enter Tryz.func154, Tryz.ntmps154
    go_wp2
    go_ret2
    exact ⟨ret2_ii (by omega) rfl, rfl⟩
  · rw [if_neg c, if_neg c]
    go_enter Tryz.func154, Tryz.ntmps154
    go_wp2
    go_ret2
    exact ⟨rfl, rfl⟩

/-- The product of two numbers that are not negative. -/
def mulC (a b : Int) : Int × Int := if a * b ≤ 9223372036854775807 then (a * b, 0) else (0, 15)

set_option maxHeartbeats 1000000 in
theorem mul_any (a b : Int) (w : World) (a0 : 0 ≤ a) (a1 : a < 9223372036854775808) (b0 : 0 ≤ b) (b1 : b < 9223372036854775808) :
    Calls Tryz.prog 124 #[.int .i64 a, .int .i64 b] w fun r w' => r = .returned (.tuple #[.int .i64 (mulC a b).1, .int .i64 (mulC a b).2]) ∧ Below w.heap.size w w' := by
  have HA := Lib.hid (fun w => size_pos a w a0 a1)
  have HB := Lib.hid (fun w => size_pos b w b0 b1)
  have HM : ∀ W, Calls Tryz.prog 152 #[.int .u64 a, .int .u64 b] W fun e w' => e = .returned (.tuple #[.int .u64 (a * b / 18446744073709551616), .int .u64 (a * b % 18446744073709551616)]) ∧ w' = W := by
    intro W
    have := Tryz.bits_Mul64 a.toNat b.toNat (by omega) (by omega) W
    rw [show ((a.toNat : Nat) : Int) = a by omega, show ((b.toNat : Nat) : Int) = b by omega] at this
    have e : ((a.toNat * b.toNat : Nat) : Int) = a * b := by rw [Int.natCast_mul, show ((a.toNat : Nat) : Int) = a by omega, show ((b.toNat : Nat) : Int) = b by omega]
    rw [Int.natCast_ediv, Int.natCast_emod, e] at this
    exact this
  have m0 : 0 ≤ a * b := Int.mul_nonneg a0 b0
  have m1 : a * b < 9223372036854775808 * 9223372036854775808 := by
    have h1 := Int.mul_le_mul_of_nonneg_left (show b ≤ 9223372036854775807 by omega) a0
    omega
  unfold mulC
  generalize a * b = m at *
  obtain ⟨hi, hhi⟩ : ∃ h, h = m / 18446744073709551616 := ⟨_, rfl⟩
  obtain ⟨lo, hlo⟩ : ∃ h, h = m % 18446744073709551616 := ⟨_, rfl⟩
  rw [← hhi, ← hlo] at HM
  have k0 : 0 ≤ hi := by omega
  have k1 : hi < 18446744073709551616 := by omega
  have k2 : 0 ≤ lo := by omega
  have k3 : lo < 18446744073709551616 := by omega
  have HS := Lib.hid (fun w => signed_pos lo w k2 k3)
  have E := Lib.hid (show m = hi * 18446744073709551616 + lo by omega)
  replace HM := Lib.hid HM
  clear hhi hlo m1
  by_cases c : 0 < hi
  · have hno : ¬ m ≤ 9223372036854775807 := by have := E.out; omega
    simp only [if_neg hno]
    clear hno
    go_enter Tryz.func124, Tryz.ntmps124
    go_wp2_with (first | (go_at_call 153; (first | with_reducible refine (HA.out _).mono ?_ | with_reducible refine (HB.out _).mono ?_); rintro _ w' ⟨rfl, rfl⟩) | (go_at_call 152; with_reducible refine (HM.out _).mono ?_; rintro _ w' ⟨rfl, rfl⟩))
    go_ret2
    exact ⟨rfl, ba (Below.refl _ _) _⟩
  · have e : hi = 0 := by omega
    subst e
    have hm : m = lo := by have := E.out; omega
    subst hm
    clear E
    by_cases c : m ≤ 9223372036854775807
    all_goals
      first | simp only [if_pos c] at HS ⊢ | simp only [if_neg c] at HS ⊢
      clear c
      have na : decide (a < 0) = false := decide_eq_false (by omega)
      have nb : decide (b < 0) = false := decide_eq_false (by omega)
      go_enter Tryz.func124, Tryz.ntmps124
      go_wp2_with (first | (go_at_call 153; (first | with_reducible refine (HA.out _).mono ?_ | with_reducible refine (HB.out _).mono ?_); rintro _ w' ⟨rfl, rfl⟩) | (go_at_call 152; with_reducible refine (HM.out _).mono ?_; rintro _ w' ⟨rfl, rfl⟩) | (go_at_call 154; with_reducible refine (HS.out _).mono ?_; rintro _ w' ⟨rfl, rfl⟩))
      go_ret2
      exact ⟨rfl, ba (Below.refl _ _) _⟩
end Bk
end Go.Proofs.YtipjmaimjchckaaGreatDoor

/-! Texts that are empty, or not, in the words of the walk. -/
set_option linter.unusedSimpArgs false
set_option linter.unusedVariables false
namespace Go.Proofs.YtipjmaimjchckaaGreatDoor
namespace Bk
theorem len_toList (s : ByteArray) : s.toList.length = s.size := by rw [ByteArray.toList_eq]; simp
theorem emp_yes {s : ByteArray} (h : s.size = 0) : s.toList.isEmpty = true := by
  have := len_toList s
  rw [List.isEmpty_iff, ← List.length_eq_zero_iff]; omega
theorem emp_no {s : ByteArray} (h : ¬ s.size = 0) : s.toList.isEmpty = false := by
  have := len_toList s
  cases e : s.toList.isEmpty
  · rfl
  · rw [List.isEmpty_iff] at e; rw [e] at this; simp at this; omega
theorem emp_cases (s : ByteArray) : (s.size = 0 ∧ s.toList.isEmpty = true) ∨ (¬ s.size = 0 ∧ s.toList.isEmpty = false) := by
  by_cases h : s.size = 0
  · exact .inl ⟨h, emp_yes h⟩
  · exact .inr ⟨h, emp_no h⟩
theorem emp_dec (s : ByteArray) : s.toList.isEmpty = decide (s.size = 0) := by
  rcases emp_cases s with ⟨h, e⟩ | ⟨h, e⟩
  · rw [e, decide_eq_true h]
  · rw [e, decide_eq_false h]
end Bk
end Go.Proofs.YtipjmaimjchckaaGreatDoor

