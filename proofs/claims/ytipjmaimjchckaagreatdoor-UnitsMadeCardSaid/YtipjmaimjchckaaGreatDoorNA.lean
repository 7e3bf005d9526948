/- PLAIN LAW: texts: what the library's functions say of them, in bytes. -/
import Derived.Shelf.GgClosure.StringsIndexFunc
import Derived.Laws.RangeAny
import Derived.Lib.AtoiAll
import Derived.Lib.ParseIntB
import Derived.Lib.SlTrimSet
import Derived.Lib.IndexMore
import Derived.Lib.Hide
import Derived.Test.YtipjmaimjchckaaGreatDoorMG
/-! PLAIN LAW: texts: what the library's functions say of them, in bytes. -/
set_option linter.unusedSimpArgs false
set_option linter.unusedVariables false
namespace Go.Proofs.YtipjmaimjchckaaGreatDoor
open Go.Lib
namespace Bk

/-- The byte at a place; 0 behind the end. -/
def byt (s : ByteArray) (i : Nat) : Int := ((s.data.toList.getD i 0).toNat : Int)
theorem byt_get (s : ByteArray) (i : Nat) (h : i < s.size) : byt s i = ((s[i]'h).toNat : Int) := by
  unfold byt
  rw [List.getD_eq_getElem?_getD, List.getElem?_eq_getElem (by simpa using h)]
  rfl
theorem byt_bd (s : ByteArray) (i : Nat) : 0 ≤ byt s i ∧ byt s i < 256 := by
  unfold byt
  have := (s.data.toList.getD i 0).toNat_lt
  omega

/-- All bytes of a text meet a test. -/
def allB (q : Int → Bool) (s : ByteArray) : Bool := s.data.toList.all fun b => q (b.toNat : Int)
theorem allB_iff (q : Int → Bool) (s : ByteArray) : allB q s = true ↔ ∀ i, i < s.size → q (byt s i) = true := by
  unfold allB
  rw [List.all_eq_true]
  constructor
  · intro h i hi
    rw [byt_get s i hi]
    exact h _ (by rw [ByteArray.getElem_eq_getElem_data]; exact Array.getElem_mem_toList ..)
  · intro h b hb
    obtain ⟨i, hi, rfl⟩ := List.getElem_of_mem hb
    have := h i (by simpa using hi)
    rw [byt_get s i (by simpa using hi)] at this
    exact this

theorem idx_from (q : Int → Bool) (p : Nat → Bool) (hp : ∀ x : Nat, x < 128 → p x = !q x) (hh : ∀ x : Nat, 128 ≤ x → p x = true) (hq : ∀ x : Int, q x = true → x < 128) (s : ByteArray) :
    ∀ (g pos : Nat), s.size ≤ pos + g → (idxFuncFrom p true s g pos < 0 ↔ ∀ i, pos ≤ i → i < s.size → q (byt s i) = true)
  | 0, pos, hg => by
    simp only [idxFuncFrom]
    exact ⟨fun _ i h1 h2 => by omega, fun _ => by decide⟩
  | g + 1, pos, hg => by
    unfold idxFuncFrom
    by_cases hlt : pos < s.size
    · rw [if_pos hlt]
      by_cases ha : (s[pos]'hlt).toNat < 128
      · rw [decode_ascii s pos hlt ha]
        dsimp only
        rw [hp _ ha]
        cases hqb : q ((s[pos]'hlt).toNat : Int)
        · rw [Bool.not_false, if_pos rfl]
          constructor
          · intro h; omega
          · intro h
            have := h pos (Nat.le_refl _) hlt
            rw [byt_get s pos hlt, hqb] at this
            cases this
        · rw [Bool.not_true, if_neg (by decide), idx_from q p hp hh hq s g (pos + 1) (by omega)]
          constructor
          · intro h i h1 h2
            by_cases e : i = pos
            · subst e; rw [byt_get s i h2]; exact hqb
            · exact h i (by omega) h2
          · intro h i h1 h2; exact h i (by omega) h2
      · obtain ⟨h1, h2⟩ := decode_high s pos hlt (by omega)
        rw [hh _ h1, if_pos rfl]
        constructor
        · intro h; omega
        · intro h
          have := hq _ (h pos (Nat.le_refl _) hlt)
          rw [byt_get s pos hlt] at this
          omega
    · rw [if_neg hlt]
      exact ⟨fun _ i h1 h2 => by omega, fun _ => by decide⟩

/-- strings.IndexFunc finds no rune that is not of a set of ASCII bytes: all bytes are of the set. -/
theorem idx_only (q : Int → Bool) (p : Nat → Bool) (hp : ∀ x : Nat, x < 128 → p x = !q x) (hh : ∀ x : Nat, 128 ≤ x → p x = true) (hq : ∀ x : Int, q x = true → x < 128) (s : ByteArray) :
    decide (idxFunc p true s < 0) = allB q s := by
  have h := idx_from q p hp hh hq s s.size 0 (by omega)
  rw [Bool.eq_iff_iff, decide_eq_true_iff, allB_iff]
  unfold idxFunc
  rw [h]
  exact ⟨fun h i hi => h i (Nat.zero_le _) hi, fun h i _ hi => h i hi⟩

/-- strings.Contains of one byte. -/
def hasB (c : Int) (s : ByteArray) : Bool := s.data.toList.any fun b => decide ((b.toNat : Int) = c)
theorem hasB_iff (c : Int) (s : ByteArray) : hasB c s = true ↔ ∃ i, i < s.size ∧ byt s i = c := by
  unfold hasB
  rw [List.any_eq_true]
  constructor
  · rintro ⟨b, hb, h⟩
    obtain ⟨i, hi, rfl⟩ := List.getElem_of_mem hb
    exact ⟨i, by simpa using hi, by rw [byt_get s i (by simpa using hi)]; exact of_decide_eq_true h⟩
  · rintro ⟨i, hi, h⟩
    rw [byt_get s i hi] at h
    exact ⟨_, by rw [ByteArray.getElem_eq_getElem_data]; exact Array.getElem_mem_toList .., decide_eq_true h⟩

theorem dw_nil {α : Type} (p : α → Bool) : ∀ l : List α, l.dropWhile p = [] ↔ l.all p = true
  | [] => by simp
  | a :: l => by
    cases h : p a
    · simp [List.dropWhile_cons, h]
    · simp [List.dropWhile_cons, h, dw_nil p l]
theorem dw_head {α : Type} (p : α → Bool) : ∀ {l : List α} {a : α} {t : List α}, l.dropWhile p = a :: t → p a = false
  | [], a, t, h => by simp at h
  | b :: l, a, t, h => by
    cases hb : p b
    · simp [List.dropWhile_cons, hb] at h
      rw [← h.1]; exact hb
    · simp [List.dropWhile_cons, hb] at h
      exact dw_head p h
/-- strings.Trim at one byte leaves nothing: all bytes are that one. -/
theorem trim_none (l : List UInt8) (c : UInt8) : (trimS l [c] = []) ↔ l.all (· == c) = true := by
  have e : (fun x => [c].contains x) = (fun x : UInt8 => x == c) := by funext x; exact contains_one c x
  have hr : (l.all (· == c) = true) ↔ l.reverse.dropWhile (fun x : UInt8 => x == c) = [] := by rw [dw_nil, List.all_reverse]
  rw [hr]
  unfold trimS trimLeftS trimRightS
  rw [e]
  constructor
  · intro h
    rw [dw_nil, List.all_reverse] at h
    cases hd : l.reverse.dropWhile (fun x => x == c) with
    | nil => rfl
    | cons a t =>
      rw [hd] at h
      have h1 := dw_head _ hd
      rw [List.all_cons, h1] at h
      cases h
  · intro h; rw [h]; rfl
end Bk
end Go.Proofs.YtipjmaimjchckaaGreatDoor

/-! PLAIN LAW: numbers in decimal digits; seasons. -/
set_option linter.unusedSimpArgs false
set_option linter.unusedVariables false
namespace Go.Proofs.YtipjmaimjchckaaGreatDoor
open Go.Lib
namespace Bk

/-- The number that digits are, behind a number. -/
def dec : List UInt8 → Nat → Nat
  | [], a => a
  | c :: r, a => dec r (10 * a + (c.toNat - 48))
def digB (c : UInt8) : Bool := decide (48 ≤ c.toNat ∧ c.toNat ≤ 57)
def isDig (x : Int) : Bool := decide (48 ≤ x ∧ x ≤ 57)
def isDigX (x : Int) : Bool := decide (48 ≤ x ∧ x ≤ 57) || decide (x = 88)

theorem dec_snoc : ∀ (l : List UInt8) (c : UInt8) (a : Nat), dec (l ++ [c]) a = 10 * dec l a + (c.toNat - 48)
  | [], c, a => rfl
  | x :: l, c, a => by simp only [List.cons_append, dec]; exact dec_snoc l c _
theorem dec_lt : ∀ (l : List UInt8) (a k : Nat), l.all digB = true → a < 10 ^ k → dec l a < 10 ^ (k + l.length)
  | [], a, k, _, h => by simpa [dec] using h
  | c :: l, a, k, hl, h => by
    simp only [List.all_cons, Bool.and_eq_true] at hl
    have hc : c.toNat ≤ 57 := (of_decide_eq_true hl.1).2
    have := dec_lt l (10 * a + (c.toNat - 48)) (k + 1) hl.2 (by rw [Nat.pow_succ]; omega)
    simp only [dec, List.length_cons]
    rw [show k + (l.length + 1) = k + 1 + l.length by omega]
    exact this

theorem parseM_digits : ∀ (l : List UInt8) (a k : Nat), l.all digB = true → a < 10 ^ k → k + l.length ≤ 17 → parseUintM 18446744073709551615 a l = .ok (dec l a)
  | [], a, k, _, h, hk => rfl
  | c :: l, a, k, hl, h, hk => by
    simp only [List.all_cons, Bool.and_eq_true] at hl
    have hc := of_decide_eq_true hl.1
    simp only [List.length_cons] at hk
    have hp : (10 : Nat) ^ k ≤ 10 ^ 16 := Nat.pow_le_pow_right (by omega) (by omega)
    have hp2 : (10 : Nat) ^ 16 = 10000000000000000 := by decide
    simp only [parseUintM, dec]
    rw [if_pos hc, if_neg (by omega), if_neg (by omega), show a * 10 + (c.toNat - 48) = 10 * a + (c.toNat - 48) by omega]
    exact parseM_digits l _ (k + 1) hl.2 (by rw [Nat.pow_succ]; omega) (by omega)

theorem parse_digits (l : List UInt8) (h0 : l ≠ []) (hl : l.all digB = true) (hk : l.length ≤ 17) : parseIntB 64 l = .ok (dec l 0 : Nat) := by
  have h := parseM_digits l 0 0 hl (by decide) (by omega)
  have hb := dec_lt l 0 0 hl (by decide)
  rw [Nat.zero_add] at hb
  have hp : (10 : Nat) ^ l.length ≤ 10 ^ 17 := Nat.pow_le_pow_right (by omega) hk
  have hp2 : (10 : Nat) ^ 17 = 100000000000000000 := by decide
  cases l with
  | nil => exact absurd rfl h0
  | cons c r =>
    have hc : 48 ≤ c.toNat ∧ c.toNat ≤ 57 := of_decide_eq_true (by simp only [List.all_cons, Bool.and_eq_true] at hl; exact hl.1)
    unfold parseIntB
    simp only
    rw [if_neg (by omega)]
    unfold parseUintB
    rw [if_neg h0, show 2 ^ 64 - 1 = 18446744073709551615 by decide, h]
    simp only
    have e63 : 2 ^ (64 - 1) = 9223372036854775808 := by decide
    rw [if_neg (by rw [e63]; omega), if_neg (by omega), if_neg (by omega)]

/-- The code of a season; 0: none. -/
def seasonC (s : ByteArray) : Int :=
  if s.size = 2 ∧ 48 ≤ byt s 0 ∧ byt s 0 ≤ 57 ∧ 48 ≤ byt s 1 ∧ byt s 1 ≤ 57 ∧ 21 ≤ 10 * (byt s 0 - 48) + (byt s 1 - 48) ∧ 10 * (byt s 0 - 48) + (byt s 1 - 48) ≤ 41 then 10 * (byt s 0 - 48) + (byt s 1 - 48) else 0
theorem seasonC_bd (s : ByteArray) : seasonC s = 0 ∨ (21 ≤ seasonC s ∧ seasonC s ≤ 41) := by
  unfold seasonC; split
  · next h => exact Or.inr ⟨h.2.2.2.2.2.1, h.2.2.2.2.2.2⟩
  · exact Or.inl rfl

theorem atoi_two (a b : UInt8) (v : Int) : (atoiAll [a, b] = .ok v ∧ 21 ≤ v ∧ v ≤ 41) ↔ ((48 ≤ a.toNat ∧ a.toNat ≤ 57 ∧ 48 ≤ b.toNat ∧ b.toNat ≤ 57 ∧ 21 ≤ 10 * (a.toNat - 48) + (b.toNat - 48) ∧ 10 * (a.toNat - 48) + (b.toNat - 48) ≤ 41) ∧ v = ((10 * (a.toNat - 48) + (b.toNat - 48) : Nat) : Int)) := by
  unfold atoiAll
  simp only
  by_cases hs : a.toNat = 43 ∨ a.toNat = 45
  · rw [if_pos hs]
    constructor
    · rintro ⟨h, h1, h2⟩
      exfalso
      unfold parseMag at h
      rw [if_neg (by simp)] at h
      unfold parseUint10 at h
      by_cases hb : 48 ≤ b.toNat ∧ b.toNat ≤ 57
      · rw [if_pos hb, if_neg (by omega), if_neg (by omega)] at h
        unfold parseUint10 at h
        simp only at h
        split at h
        · cases h
        · split at h
          · cases h
          · injection h with h
            split at h <;> omega
      · rw [if_neg hb] at h
        cases h
    · rintro ⟨h, _⟩; omega
  · rw [if_neg hs]
    unfold parseMag
    rw [if_neg (by simp)]
    unfold parseUint10
    by_cases ha : 48 ≤ a.toNat ∧ a.toNat ≤ 57
    · rw [if_pos ha, if_neg (by omega), if_neg (by omega)]
      unfold parseUint10
      by_cases hb : 48 ≤ b.toNat ∧ b.toNat ≤ 57
      · rw [if_pos hb, if_neg (by omega), if_neg (by omega)]
        unfold parseUint10
        simp only
        rw [if_neg (by omega), if_neg (by omega), if_neg (by omega)]
        constructor
        · rintro ⟨h, h1, h2⟩
          injection h with h
          refine ⟨⟨ha.1, ha.2, hb.1, hb.2, ?_, ?_⟩, ?_⟩ <;> omega
        · rintro ⟨⟨_, _, _, _, h1, h2⟩, rfl⟩
          refine ⟨?_, by omega, by omega⟩
          congr 1
          omega
      · rw [if_neg hb]
        constructor
        · rintro ⟨h, _⟩; cases h
        · rintro ⟨⟨_, _, h1, h2, _⟩, _⟩; exact absurd ⟨h1, h2⟩ hb
    · rw [if_neg ha]
      constructor
      · rintro ⟨h, _⟩; cases h
      · rintro ⟨⟨h1, h2, _⟩, _⟩; exact absurd ⟨h1, h2⟩ ha

theorem two_list {s : ByteArray} (h : s.size = 2) : ∃ a b : UInt8, s.data.toList = [a, b] ∧ byt s 0 = a.toNat ∧ byt s 1 = b.toNat := by
  have hl : s.data.toList.length = 2 := by simpa using h
  match e : s.data.toList, hl with
  | [a, b], _ => exact ⟨a, b, rfl, by unfold byt; rw [e]; rfl, by unfold byt; rw [e]; rfl⟩
theorem atoi_season {s : ByteArray} (h2 : s.size = 2) {v : Int} (h : atoiAll s.data.toList = .ok v) : seasonC s = if 21 ≤ v ∧ v ≤ 41 then v else 0 := by
  obtain ⟨a, b, e, e0, e1⟩ := two_list h2
  rw [e] at h
  by_cases c : 21 ≤ v ∧ v ≤ 41
  · obtain ⟨g, hv⟩ := (atoi_two a b v).1 ⟨h, c.1, c.2⟩
    rw [if_pos c]
    unfold seasonC
    rw [e0, e1, if_pos (by omega)]
    omega
  · rw [if_neg c]
    unfold seasonC
    rw [e0, e1]
    split
    · rename_i g
      exfalso
      have := ((atoi_two a b _).2 ⟨by omega, rfl⟩).1
      rw [h] at this
      injection this with this
      omega
    · rfl
theorem atoi_none {s : ByteArray} (h : ∀ v, atoiAll s.data.toList ≠ .ok v) : seasonC s = 0 := by
  unfold seasonC
  split
  · rename_i g
    exfalso
    obtain ⟨a, b, e, e0, e1⟩ := two_list g.1
    rw [e] at h
    exact h _ ((atoi_two a b _).2 ⟨by omega, rfl⟩).1
  · rfl
theorem season_size {s : ByteArray} (h : ¬ s.size = 2) : seasonC s = 0 := by
  unfold seasonC; rw [if_neg (fun g => h g.1)]
end Bk
end Go.Proofs.YtipjmaimjchckaaGreatDoor

/-! PLAIN LAW: numbers of four digits next to a number, that agree with a mask. -/
set_option linter.unusedSimpArgs false
set_option linter.unusedVariables false
namespace Go.Proofs.YtipjmaimjchckaaGreatDoor
namespace Bk

/-- The digit at a place of four. -/
def dg (v : Int) (i : Nat) : Int := if i = 0 then v / 1000 else if i = 1 then v / 100 % 10 else if i = 2 then v / 10 % 10 else v % 10
def fitD (b : Nat → Int) (v : Int) (i : Nat) : Prop := b i = 88 ∨ b i = 48 + dg v i
/-- A number is one of a mask of four bytes. -/
def Mat (b : Nat → Int) (v : Int) : Prop := 0 ≤ v ∧ v ≤ 9999 ∧ fitD b v 0 ∧ fitD b v 1 ∧ fitD b v 2 ∧ fitD b v 3
def val4 (o : Nat → Int) : Int := 1000 * (o 0 - 48) + 100 * (o 1 - 48) + 10 * (o 2 - 48) + (o 3 - 48)
def MOk (b : Nat → Int) : Prop := ∀ i, i < 4 → b i = 88 ∨ (48 ≤ b i ∧ b i ≤ 57)

theorem digits_of (v : Int) (h0 : 0 ≤ v) (h1 : v ≤ 9999) : ∃ d0 d1 d2 d3 : Int, 0 ≤ d0 ∧ d0 ≤ 9 ∧ 0 ≤ d1 ∧ d1 ≤ 9 ∧ 0 ≤ d2 ∧ d2 ≤ 9 ∧ 0 ≤ d3 ∧ d3 ≤ 9 ∧ v = 1000 * d0 + 100 * d1 + 10 * d2 + d3 ∧ dg v 0 = d0 ∧ dg v 1 = d1 ∧ dg v 2 = d2 ∧ dg v 3 = d3 :=
  ⟨v / 1000, v / 100 % 10, v / 10 % 10, v % 10, by omega, by omega, by omega, by omega, by omega, by omega, by omega, by omega, by omega, rfl, rfl, rfl, rfl⟩
theorem dg_of {v d0 d1 d2 d3 : Int} (h : v = 1000 * d0 + 100 * d1 + 10 * d2 + d3) (a0 : 0 ≤ d0) (a1 : d0 ≤ 9) (b0 : 0 ≤ d1) (b1 : d1 ≤ 9) (c0 : 0 ≤ d2) (c1 : d2 ≤ 9) (e0 : 0 ≤ d3) (e1 : d3 ≤ 9) :
    dg v 0 = d0 ∧ dg v 1 = d1 ∧ dg v 2 = d2 ∧ dg v 3 = d3 := by
  refine ⟨?_, ?_, ?_, ?_⟩ <;> simp only [dg] <;> simp <;> omega

/-- What a mask says of a number, in digits. -/
theorem mat_iff (b : Nat → Int) (v : Int) : Mat b v ↔ ∃ d0 d1 d2 d3 : Int, 0 ≤ d0 ∧ d0 ≤ 9 ∧ 0 ≤ d1 ∧ d1 ≤ 9 ∧ 0 ≤ d2 ∧ d2 ≤ 9 ∧ 0 ≤ d3 ∧ d3 ≤ 9 ∧ v = 1000 * d0 + 100 * d1 + 10 * d2 + d3 ∧ (b 0 = 88 ∨ b 0 = 48 + d0) ∧ (b 1 = 88 ∨ b 1 = 48 + d1) ∧ (b 2 = 88 ∨ b 2 = 48 + d2) ∧ (b 3 = 88 ∨ b 3 = 48 + d3) := by
  constructor
  · rintro ⟨h0, h1, f0, f1, f2, f3⟩
    obtain ⟨d0, d1, d2, d3, a0, a1, a2, a3, a4, a5, a6, a7, e, e0, e1, e2, e3⟩ := digits_of v h0 h1
    unfold fitD at f0 f1 f2 f3
    rw [e0] at f0; rw [e1] at f1; rw [e2] at f2; rw [e3] at f3
    exact ⟨d0, d1, d2, d3, a0, a1, a2, a3, a4, a5, a6, a7, e, f0, f1, f2, f3⟩
  · rintro ⟨d0, d1, d2, d3, a0, a1, a2, a3, a4, a5, a6, a7, e, f0, f1, f2, f3⟩
    obtain ⟨e0, e1, e2, e3⟩ := dg_of e a0 a1 a2 a3 a4 a5 a6 a7
    refine ⟨by omega, by omega, ?_, ?_, ?_, ?_⟩ <;> unfold fitD
    · rw [e0]; exact f0
    · rw [e1]; exact f1
    · rw [e2]; exact f2
    · rw [e3]; exact f3

/-- n itself. -/
theorem mat_self {b : Nat → Int} {n : Int} (h0 : 0 ≤ n) (h1 : n ≤ 9999) (h : ∀ i, i < 4 → fitD b n i) : Mat b n := ⟨h0, h1, h 0 (by omega), h 1 (by omega), h 2 (by omega), h 3 (by omega)⟩

/-- Upwards, where the first byte that differs leads beyond. -/
theorem up_here {b o : Nat → Int} {n : Int} {k : Nat} (hb : MOk b) (h0 : 0 ≤ n) (h1 : n ≤ 9999) (hk : k < 4) (hf : ∀ i, i < k → fitD b n i) (hx : b k ≠ 88) (hg : 48 + dg n k < b k)
    (ho : ∀ i, i < k → o i = 48 + dg n i) (hr : ∀ i, k ≤ i → i < 4 → o i = if b i = 88 then 48 else b i) : Mat b (val4 o) ∧ n ≤ val4 o ∧ ∀ f, Mat b f → n ≤ f → val4 o ≤ f := by
  obtain ⟨d0, d1, d2, d3, a0, a1, a2, a3, a4, a5, a6, a7, e, e0, e1, e2, e3⟩ := digits_of n h0 h1
  have m0 := hb 0 (by omega); have m1 := hb 1 (by omega); have m2 := hb 2 (by omega); have m3 := hb 3 (by omega)
  simp only [mat_iff]
  obtain rfl | rfl | rfl | rfl : k = 0 ∨ k = 1 ∨ k = 2 ∨ k = 3 := by omega
  · have r0 := hr 0 (by omega) (by omega)
    have r1 := hr 1 (by omega) (by omega)
    have r2 := hr 2 (by omega) (by omega)
    have r3 := hr 3 (by omega) (by omega)
    rw [e0] at hg
    clear hf ho hr hb e0 e1 e2 e3
    unfold val4
    refine ⟨⟨o 0 - 48, o 1 - 48, o 2 - 48, o 3 - 48, ?_⟩, ?_, ?_⟩
    · split at r0 <;> split at r1 <;> split at r2 <;> split at r3 <;> omega
    · split at r0 <;> split at r1 <;> split at r2 <;> split at r3 <;> omega
    · rintro f ⟨f0, f1, f2, f3, g⟩ hn; split at r0 <;> split at r1 <;> split at r2 <;> split at r3 <;> omega
  · have p0 := hf 0 (by omega)
    unfold fitD at p0
    rw [e0] at p0
    have q0 := ho 0 (by omega)
    rw [e0] at q0
    have r1 := hr 1 (by omega) (by omega)
    have r2 := hr 2 (by omega) (by omega)
    have r3 := hr 3 (by omega) (by omega)
    rw [e1] at hg
    clear hf ho hr hb e0 e1 e2 e3
    unfold val4
    refine ⟨⟨o 0 - 48, o 1 - 48, o 2 - 48, o 3 - 48, ?_⟩, ?_, ?_⟩
    · split at r1 <;> split at r2 <;> split at r3 <;> omega
    · split at r1 <;> split at r2 <;> split at r3 <;> omega
    · rintro f ⟨f0, f1, f2, f3, g⟩ hn; split at r1 <;> split at r2 <;> split at r3 <;> omega
  · have p0 := hf 0 (by omega)
    unfold fitD at p0
    rw [e0] at p0
    have q0 := ho 0 (by omega)
    rw [e0] at q0
    have p1 := hf 1 (by omega)
    unfold fitD at p1
    rw [e1] at p1
    have q1 := ho 1 (by omega)
    rw [e1] at q1
    have r2 := hr 2 (by omega) (by omega)
    have r3 := hr 3 (by omega) (by omega)
    rw [e2] at hg
    clear hf ho hr hb e0 e1 e2 e3
    unfold val4
    refine ⟨⟨o 0 - 48, o 1 - 48, o 2 - 48, o 3 - 48, ?_⟩, ?_, ?_⟩
    · split at r2 <;> split at r3 <;> omega
    · split at r2 <;> split at r3 <;> omega
    · rintro f ⟨f0, f1, f2, f3, g⟩ hn; split at r2 <;> split at r3 <;> omega
  · have p0 := hf 0 (by omega)
    unfold fitD at p0
    rw [e0] at p0
    have q0 := ho 0 (by omega)
    rw [e0] at q0
    have p1 := hf 1 (by omega)
    unfold fitD at p1
    rw [e1] at p1
    have q1 := ho 1 (by omega)
    rw [e1] at q1
    have p2 := hf 2 (by omega)
    unfold fitD at p2
    rw [e2] at p2
    have q2 := ho 2 (by omega)
    rw [e2] at q2
    have r3 := hr 3 (by omega) (by omega)
    rw [e3] at hg
    clear hf ho hr hb e0 e1 e2 e3
    unfold val4
    refine ⟨⟨o 0 - 48, o 1 - 48, o 2 - 48, o 3 - 48, ?_⟩, ?_, ?_⟩
    · split at r3 <;> omega
    · split at r3 <;> omega
    · rintro f ⟨f0, f1, f2, f3, g⟩ hn; split at r3 <;> omega
/-- Upwards, where an X ahead of the first byte that differs has to lead beyond. -/
theorem up_back {b o : Nat → Int} {n : Int} {k j : Nat} (hb : MOk b) (h0 : 0 ≤ n) (h1 : n ≤ 9999) (hk : k < 4) (hf : ∀ i, i < k → fitD b n i) (hx : b k ≠ 88) (hg : b k < 48 + dg n k)
    (hj : j < k) (hbx : b j = 88) (hd : dg n j ≠ 9) (hn : ∀ i, j < i → i < k → ¬ (b i = 88 ∧ dg n i ≠ 9))
    (ho : ∀ i, i < j → o i = 48 + dg n i) (hoj : o j = 48 + dg n j + 1) (hr : ∀ i, j < i → i < 4 → o i = if b i = 88 then 48 else b i) : Mat b (val4 o) ∧ n ≤ val4 o ∧ ∀ f, Mat b f → n ≤ f → val4 o ≤ f := by
  obtain ⟨d0, d1, d2, d3, a0, a1, a2, a3, a4, a5, a6, a7, e, e0, e1, e2, e3⟩ := digits_of n h0 h1
  have m0 := hb 0 (by omega); have m1 := hb 1 (by omega); have m2 := hb 2 (by omega); have m3 := hb 3 (by omega)
  simp only [mat_iff]
  obtain ⟨rfl, rfl⟩ | ⟨rfl, rfl⟩ | ⟨rfl, rfl⟩ | ⟨rfl, rfl⟩ | ⟨rfl, rfl⟩ | ⟨rfl, rfl⟩ : (j = 0 ∧ k = 1) ∨ (j = 0 ∧ k = 2) ∨ (j = 0 ∧ k = 3) ∨ (j = 1 ∧ k = 2) ∨ (j = 1 ∧ k = 3) ∨ (j = 2 ∧ k = 3) := by omega
  · have p0 := hf 0 (by omega)
    unfold fitD at p0
    rw [e0] at p0
    rw [e0] at hoj hd
    have r1 := hr 1 (by omega) (by omega)
    have r2 := hr 2 (by omega) (by omega)
    have r3 := hr 3 (by omega) (by omega)
    rw [e1] at hg
    clear hf ho hr hb hn e0 e1 e2 e3
    unfold val4
    refine ⟨⟨o 0 - 48, o 1 - 48, o 2 - 48, o 3 - 48, ?_⟩, ?_, ?_⟩
    · split at r1 <;> split at r2 <;> split at r3 <;> omega
    · split at r1 <;> split at r2 <;> split at r3 <;> omega
    · rintro f ⟨f0, f1, f2, f3, g⟩ hn; split at r1 <;> split at r2 <;> split at r3 <;> omega
  · have p0 := hf 0 (by omega)
    unfold fitD at p0
    rw [e0] at p0
    have p1 := hf 1 (by omega)
    unfold fitD at p1
    rw [e1] at p1
    rw [e0] at hoj hd
    have s1 := hn 1 (by omega) (by omega)
    rw [e1] at s1
    have r1 := hr 1 (by omega) (by omega)
    have r2 := hr 2 (by omega) (by omega)
    have r3 := hr 3 (by omega) (by omega)
    rw [e2] at hg
    clear hf ho hr hb hn e0 e1 e2 e3
    unfold val4
    refine ⟨⟨o 0 - 48, o 1 - 48, o 2 - 48, o 3 - 48, ?_⟩, ?_, ?_⟩
    · split at r1 <;> split at r2 <;> split at r3 <;> omega
    · split at r1 <;> split at r2 <;> split at r3 <;> omega
    · rintro f ⟨f0, f1, f2, f3, g⟩ hn; split at r1 <;> split at r2 <;> split at r3 <;> omega
  · have p0 := hf 0 (by omega)
    unfold fitD at p0
    rw [e0] at p0
    have p1 := hf 1 (by omega)
    unfold fitD at p1
    rw [e1] at p1
    have p2 := hf 2 (by omega)
    unfold fitD at p2
    rw [e2] at p2
    rw [e0] at hoj hd
    have s1 := hn 1 (by omega) (by omega)
    rw [e1] at s1
    have s2 := hn 2 (by omega) (by omega)
    rw [e2] at s2
    have r1 := hr 1 (by omega) (by omega)
    have r2 := hr 2 (by omega) (by omega)
    have r3 := hr 3 (by omega) (by omega)
    rw [e3] at hg
    clear hf ho hr hb hn e0 e1 e2 e3
    unfold val4
    refine ⟨⟨o 0 - 48, o 1 - 48, o 2 - 48, o 3 - 48, ?_⟩, ?_, ?_⟩
    · split at r1 <;> split at r2 <;> split at r3 <;> omega
    · split at r1 <;> split at r2 <;> split at r3 <;> omega
    · rintro f ⟨f0, f1, f2, f3, g⟩ hn; split at r1 <;> split at r2 <;> split at r3 <;> omega
  · have p0 := hf 0 (by omega)
    unfold fitD at p0
    rw [e0] at p0
    have p1 := hf 1 (by omega)
    unfold fitD at p1
    rw [e1] at p1
    have q0 := ho 0 (by omega)
    rw [e0] at q0
    rw [e1] at hoj hd
    have r2 := hr 2 (by omega) (by omega)
    have r3 := hr 3 (by omega) (by omega)
    rw [e2] at hg
    clear hf ho hr hb hn e0 e1 e2 e3
    unfold val4
    refine ⟨⟨o 0 - 48, o 1 - 48, o 2 - 48, o 3 - 48, ?_⟩, ?_, ?_⟩
    · split at r2 <;> split at r3 <;> omega
    · split at r2 <;> split at r3 <;> omega
    · rintro f ⟨f0, f1, f2, f3, g⟩ hn; split at r2 <;> split at r3 <;> omega
  · have p0 := hf 0 (by omega)
    unfold fitD at p0
    rw [e0] at p0
    have p1 := hf 1 (by omega)
    unfold fitD at p1
    rw [e1] at p1
    have p2 := hf 2 (by omega)
    unfold fitD at p2
    rw [e2] at p2
    have q0 := ho 0 (by omega)
    rw [e0] at q0
    rw [e1] at hoj hd
    have s2 := hn 2 (by omega) (by omega)
    rw [e2] at s2
    have r2 := hr 2 (by omega) (by omega)
    have r3 := hr 3 (by omega) (by omega)
    rw [e3] at hg
    clear hf ho hr hb hn e0 e1 e2 e3
    unfold val4
    refine ⟨⟨o 0 - 48, o 1 - 48, o 2 - 48, o 3 - 48, ?_⟩, ?_, ?_⟩
    · split at r2 <;> split at r3 <;> omega
    · split at r2 <;> split at r3 <;> omega
    · rintro f ⟨f0, f1, f2, f3, g⟩ hn; split at r2 <;> split at r3 <;> omega
  · have p0 := hf 0 (by omega)
    unfold fitD at p0
    rw [e0] at p0
    have p1 := hf 1 (by omega)
    unfold fitD at p1
    rw [e1] at p1
    have p2 := hf 2 (by omega)
    unfold fitD at p2
    rw [e2] at p2
    have q0 := ho 0 (by omega)
    rw [e0] at q0
    have q1 := ho 1 (by omega)
    rw [e1] at q1
    rw [e2] at hoj hd
    have r3 := hr 3 (by omega) (by omega)
    rw [e3] at hg
    clear hf ho hr hb hn e0 e1 e2 e3
    unfold val4
    refine ⟨⟨o 0 - 48, o 1 - 48, o 2 - 48, o 3 - 48, ?_⟩, ?_, ?_⟩
    · split at r3 <;> omega
    · split at r3 <;> omega
    · rintro f ⟨f0, f1, f2, f3, g⟩ hn; split at r3 <;> omega
/-- Upwards there is none. -/
theorem up_none {b : Nat → Int} {n : Int} {k : Nat} (h0 : 0 ≤ n) (h1 : n ≤ 9999) (hk : k < 4) (hf : ∀ i, i < k → fitD b n i) (hx : b k ≠ 88) (hg : b k < 48 + dg n k)
    (hn : ∀ i, i < k → ¬ (b i = 88 ∧ dg n i ≠ 9)) : ∀ f, Mat b f → f < n := by
  obtain ⟨d0, d1, d2, d3, a0, a1, a2, a3, a4, a5, a6, a7, e, e0, e1, e2, e3⟩ := digits_of n h0 h1
  simp only [mat_iff]
  obtain rfl | rfl | rfl | rfl : k = 0 ∨ k = 1 ∨ k = 2 ∨ k = 3 := by omega
  · rw [e0] at hg
    clear hf hn e0 e1 e2 e3
    rintro f ⟨f0, f1, f2, f3, g⟩; omega
  · have p0 := hf 0 (by omega)
    unfold fitD at p0
    rw [e0] at p0
    have s0 := hn 0 (by omega)
    rw [e0] at s0
    rw [e1] at hg
    clear hf hn e0 e1 e2 e3
    rintro f ⟨f0, f1, f2, f3, g⟩; omega
  · have p0 := hf 0 (by omega)
    unfold fitD at p0
    rw [e0] at p0
    have s0 := hn 0 (by omega)
    rw [e0] at s0
    have p1 := hf 1 (by omega)
    unfold fitD at p1
    rw [e1] at p1
    have s1 := hn 1 (by omega)
    rw [e1] at s1
    rw [e2] at hg
    clear hf hn e0 e1 e2 e3
    rintro f ⟨f0, f1, f2, f3, g⟩; omega
  · have p0 := hf 0 (by omega)
    unfold fitD at p0
    rw [e0] at p0
    have s0 := hn 0 (by omega)
    rw [e0] at s0
    have p1 := hf 1 (by omega)
    unfold fitD at p1
    rw [e1] at p1
    have s1 := hn 1 (by omega)
    rw [e1] at s1
    have p2 := hf 2 (by omega)
    unfold fitD at p2
    rw [e2] at p2
    have s2 := hn 2 (by omega)
    rw [e2] at s2
    rw [e3] at hg
    clear hf hn e0 e1 e2 e3
    rintro f ⟨f0, f1, f2, f3, g⟩; omega
/-- Downwards, where the first byte that differs leads beyond. -/
theorem dn_here {b o : Nat → Int} {n : Int} {k : Nat} (hb : MOk b) (h0 : 0 ≤ n) (h1 : n ≤ 9999) (hk : k < 4) (hf : ∀ i, i < k → fitD b n i) (hx : b k ≠ 88) (hg : b k < 48 + dg n k)
    (ho : ∀ i, i < k → o i = 48 + dg n i) (hr : ∀ i, k ≤ i → i < 4 → o i = if b i = 88 then 57 else b i) : Mat b (val4 o) ∧ val4 o ≤ n ∧ ∀ f, Mat b f → f ≤ n → f ≤ val4 o := by
  obtain ⟨d0, d1, d2, d3, a0, a1, a2, a3, a4, a5, a6, a7, e, e0, e1, e2, e3⟩ := digits_of n h0 h1
  have m0 := hb 0 (by omega); have m1 := hb 1 (by omega); have m2 := hb 2 (by omega); have m3 := hb 3 (by omega)
  simp only [mat_iff]
  obtain rfl | rfl | rfl | rfl : k = 0 ∨ k = 1 ∨ k = 2 ∨ k = 3 := by omega
  · have r0 := hr 0 (by omega) (by omega)
    have r1 := hr 1 (by omega) (by omega)
    have r2 := hr 2 (by omega) (by omega)
    have r3 := hr 3 (by omega) (by omega)
    rw [e0] at hg
    clear hf ho hr hb e0 e1 e2 e3
    unfold val4
    refine ⟨⟨o 0 - 48, o 1 - 48, o 2 - 48, o 3 - 48, ?_⟩, ?_, ?_⟩
    · split at r0 <;> split at r1 <;> split at r2 <;> split at r3 <;> omega
    · split at r0 <;> split at r1 <;> split at r2 <;> split at r3 <;> omega
    · rintro f ⟨f0, f1, f2, f3, g⟩ hn; split at r0 <;> split at r1 <;> split at r2 <;> split at r3 <;> omega
  · have p0 := hf 0 (by omega)
    unfold fitD at p0
    rw [e0] at p0
    have q0 := ho 0 (by omega)
    rw [e0] at q0
    have r1 := hr 1 (by omega) (by omega)
    have r2 := hr 2 (by omega) (by omega)
    have r3 := hr 3 (by omega) (by omega)
    rw [e1] at hg
    clear hf ho hr hb e0 e1 e2 e3
    unfold val4
    refine ⟨⟨o 0 - 48, o 1 - 48, o 2 - 48, o 3 - 48, ?_⟩, ?_, ?_⟩
    · split at r1 <;> split at r2 <;> split at r3 <;> omega
    · split at r1 <;> split at r2 <;> split at r3 <;> omega
    · rintro f ⟨f0, f1, f2, f3, g⟩ hn; split at r1 <;> split at r2 <;> split at r3 <;> omega
  · have p0 := hf 0 (by omega)
    unfold fitD at p0
    rw [e0] at p0
    have q0 := ho 0 (by omega)
    rw [e0] at q0
    have p1 := hf 1 (by omega)
    unfold fitD at p1
    rw [e1] at p1
    have q1 := ho 1 (by omega)
    rw [e1] at q1
    have r2 := hr 2 (by omega) (by omega)
    have r3 := hr 3 (by omega) (by omega)
    rw [e2] at hg
    clear hf ho hr hb e0 e1 e2 e3
    unfold val4
    refine ⟨⟨o 0 - 48, o 1 - 48, o 2 - 48, o 3 - 48, ?_⟩, ?_, ?_⟩
    · split at r2 <;> split at r3 <;> omega
    · split at r2 <;> split at r3 <;> omega
    · rintro f ⟨f0, f1, f2, f3, g⟩ hn; split at r2 <;> split at r3 <;> omega
  · have p0 := hf 0 (by omega)
    unfold fitD at p0
    rw [e0] at p0
    have q0 := ho 0 (by omega)
    rw [e0] at q0
    have p1 := hf 1 (by omega)
    unfold fitD at p1
    rw [e1] at p1
    have q1 := ho 1 (by omega)
    rw [e1] at q1
    have p2 := hf 2 (by omega)
    unfold fitD at p2
    rw [e2] at p2
    have q2 := ho 2 (by omega)
    rw [e2] at q2
    have r3 := hr 3 (by omega) (by omega)
    rw [e3] at hg
    clear hf ho hr hb e0 e1 e2 e3
    unfold val4
    refine ⟨⟨o 0 - 48, o 1 - 48, o 2 - 48, o 3 - 48, ?_⟩, ?_, ?_⟩
    · split at r3 <;> omega
    · split at r3 <;> omega
    · rintro f ⟨f0, f1, f2, f3, g⟩ hn; split at r3 <;> omega
/-- Downwards, where an X ahead of the first byte that differs has to lead beyond. -/
theorem dn_back {b o : Nat → Int} {n : Int} {k j : Nat} (hb : MOk b) (h0 : 0 ≤ n) (h1 : n ≤ 9999) (hk : k < 4) (hf : ∀ i, i < k → fitD b n i) (hx : b k ≠ 88) (hg : 48 + dg n k < b k)
    (hj : j < k) (hbx : b j = 88) (hd : dg n j ≠ 0) (hn : ∀ i, j < i → i < k → ¬ (b i = 88 ∧ dg n i ≠ 0))
    (ho : ∀ i, i < j → o i = 48 + dg n i) (hoj : o j = 48 + dg n j - 1) (hr : ∀ i, j < i → i < 4 → o i = if b i = 88 then 57 else b i) : Mat b (val4 o) ∧ val4 o ≤ n ∧ ∀ f, Mat b f → f ≤ n → f ≤ val4 o := by
  obtain ⟨d0, d1, d2, d3, a0, a1, a2, a3, a4, a5, a6, a7, e, e0, e1, e2, e3⟩ := digits_of n h0 h1
  have m0 := hb 0 (by omega); have m1 := hb 1 (by omega); have m2 := hb 2 (by omega); have m3 := hb 3 (by omega)
  simp only [mat_iff]
  obtain ⟨rfl, rfl⟩ | ⟨rfl, rfl⟩ | ⟨rfl, rfl⟩ | ⟨rfl, rfl⟩ | ⟨rfl, rfl⟩ | ⟨rfl, rfl⟩ : (j = 0 ∧ k = 1) ∨ (j = 0 ∧ k = 2) ∨ (j = 0 ∧ k = 3) ∨ (j = 1 ∧ k = 2) ∨ (j = 1 ∧ k = 3) ∨ (j = 2 ∧ k = 3) := by omega
  · have p0 := hf 0 (by omega)
    unfold fitD at p0
    rw [e0] at p0
    rw [e0] at hoj hd
    have r1 := hr 1 (by omega) (by omega)
    have r2 := hr 2 (by omega) (by omega)
    have r3 := hr 3 (by omega) (by omega)
    rw [e1] at hg
    clear hf ho hr hb hn e0 e1 e2 e3
    unfold val4
    refine ⟨⟨o 0 - 48, o 1 - 48, o 2 - 48, o 3 - 48, ?_⟩, ?_, ?_⟩
    · split at r1 <;> split at r2 <;> split at r3 <;> omega
    · split at r1 <;> split at r2 <;> split at r3 <;> omega
    · rintro f ⟨f0, f1, f2, f3, g⟩ hn; split at r1 <;> split at r2 <;> split at r3 <;> omega
  · have p0 := hf 0 (by omega)
    unfold fitD at p0
    rw [e0] at p0
    have p1 := hf 1 (by omega)
    unfold fitD at p1
    rw [e1] at p1
    rw [e0] at hoj hd
    have s1 := hn 1 (by omega) (by omega)
    rw [e1] at s1
    have r1 := hr 1 (by omega) (by omega)
    have r2 := hr 2 (by omega) (by omega)
    have r3 := hr 3 (by omega) (by omega)
    rw [e2] at hg
    clear hf ho hr hb hn e0 e1 e2 e3
    unfold val4
    refine ⟨⟨o 0 - 48, o 1 - 48, o 2 - 48, o 3 - 48, ?_⟩, ?_, ?_⟩
    · split at r1 <;> split at r2 <;> split at r3 <;> omega
    · split at r1 <;> split at r2 <;> split at r3 <;> omega
    · rintro f ⟨f0, f1, f2, f3, g⟩ hn; split at r1 <;> split at r2 <;> split at r3 <;> omega
  · have p0 := hf 0 (by omega)
    unfold fitD at p0
    rw [e0] at p0
    have p1 := hf 1 (by omega)
    unfold fitD at p1
    rw [e1] at p1
    have p2 := hf 2 (by omega)
    unfold fitD at p2
    rw [e2] at p2
    rw [e0] at hoj hd
    have s1 := hn 1 (by omega) (by omega)
    rw [e1] at s1
    have s2 := hn 2 (by omega) (by omega)
    rw [e2] at s2
    have r1 := hr 1 (by omega) (by omega)
    have r2 := hr 2 (by omega) (by omega)
    have r3 := hr 3 (by omega) (by omega)
    rw [e3] at hg
    clear hf ho hr hb hn e0 e1 e2 e3
    unfold val4
    refine ⟨⟨o 0 - 48, o 1 - 48, o 2 - 48, o 3 - 48, ?_⟩, ?_, ?_⟩
    · split at r1 <;> split at r2 <;> split at r3 <;> omega
    · split at r1 <;> split at r2 <;> split at r3 <;> omega
    · rintro f ⟨f0, f1, f2, f3, g⟩ hn; split at r1 <;> split at r2 <;> split at r3 <;> omega
  · have p0 := hf 0 (by omega)
    unfold fitD at p0
    rw [e0] at p0
    have p1 := hf 1 (by omega)
    unfold fitD at p1
    rw [e1] at p1
    have q0 := ho 0 (by omega)
    rw [e0] at q0
    rw [e1] at hoj hd
    have r2 := hr 2 (by omega) (by omega)
    have r3 := hr 3 (by omega) (by omega)
    rw [e2] at hg
    clear hf ho hr hb hn e0 e1 e2 e3
    unfold val4
    refine ⟨⟨o 0 - 48, o 1 - 48, o 2 - 48, o 3 - 48, ?_⟩, ?_, ?_⟩
    · split at r2 <;> split at r3 <;> omega
    · split at r2 <;> split at r3 <;> omega
    · rintro f ⟨f0, f1, f2, f3, g⟩ hn; split at r2 <;> split at r3 <;> omega
  · have p0 := hf 0 (by omega)
    unfold fitD at p0
    rw [e0] at p0
    have p1 := hf 1 (by omega)
    unfold fitD at p1
    rw [e1] at p1
    have p2 := hf 2 (by omega)
    unfold fitD at p2
    rw [e2] at p2
    have q0 := ho 0 (by omega)
    rw [e0] at q0
    rw [e1] at hoj hd
    have s2 := hn 2 (by omega) (by omega)
    rw [e2] at s2
    have r2 := hr 2 (by omega) (by omega)
    have r3 := hr 3 (by omega) (by omega)
    rw [e3] at hg
    clear hf ho hr hb hn e0 e1 e2 e3
    unfold val4
    refine ⟨⟨o 0 - 48, o 1 - 48, o 2 - 48, o 3 - 48, ?_⟩, ?_, ?_⟩
    · split at r2 <;> split at r3 <;> omega
    · split at r2 <;> split at r3 <;> omega
    · rintro f ⟨f0, f1, f2, f3, g⟩ hn; split at r2 <;> split at r3 <;> omega
  · have p0 := hf 0 (by omega)
    unfold fitD at p0
    rw [e0] at p0
    have p1 := hf 1 (by omega)
    unfold fitD at p1
    rw [e1] at p1
    have p2 := hf 2 (by omega)
    unfold fitD at p2
    rw [e2] at p2
    have q0 := ho 0 (by omega)
    rw [e0] at q0
    have q1 := ho 1 (by omega)
    rw [e1] at q1
    rw [e2] at hoj hd
    have r3 := hr 3 (by omega) (by omega)
    rw [e3] at hg
    clear hf ho hr hb hn e0 e1 e2 e3
    unfold val4
    refine ⟨⟨o 0 - 48, o 1 - 48, o 2 - 48, o 3 - 48, ?_⟩, ?_, ?_⟩
    · split at r3 <;> omega
    · split at r3 <;> omega
    · rintro f ⟨f0, f1, f2, f3, g⟩ hn; split at r3 <;> omega
/-- Downwards there is none. -/
theorem dn_none {b : Nat → Int} {n : Int} {k : Nat} (h0 : 0 ≤ n) (h1 : n ≤ 9999) (hk : k < 4) (hf : ∀ i, i < k → fitD b n i) (hx : b k ≠ 88) (hg : 48 + dg n k < b k)
    (hn : ∀ i, i < k → ¬ (b i = 88 ∧ dg n i ≠ 0)) : ∀ f, Mat b f → n < f := by
  obtain ⟨d0, d1, d2, d3, a0, a1, a2, a3, a4, a5, a6, a7, e, e0, e1, e2, e3⟩ := digits_of n h0 h1
  simp only [mat_iff]
  obtain rfl | rfl | rfl | rfl : k = 0 ∨ k = 1 ∨ k = 2 ∨ k = 3 := by omega
  · rw [e0] at hg
    clear hf hn e0 e1 e2 e3
    rintro f ⟨f0, f1, f2, f3, g⟩; omega
  · have p0 := hf 0 (by omega)
    unfold fitD at p0
    rw [e0] at p0
    have s0 := hn 0 (by omega)
    rw [e0] at s0
    rw [e1] at hg
    clear hf hn e0 e1 e2 e3
    rintro f ⟨f0, f1, f2, f3, g⟩; omega
  · have p0 := hf 0 (by omega)
    unfold fitD at p0
    rw [e0] at p0
    have s0 := hn 0 (by omega)
    rw [e0] at s0
    have p1 := hf 1 (by omega)
    unfold fitD at p1
    rw [e1] at p1
    have s1 := hn 1 (by omega)
    rw [e1] at s1
    rw [e2] at hg
    clear hf hn e0 e1 e2 e3
    rintro f ⟨f0, f1, f2, f3, g⟩; omega
  · have p0 := hf 0 (by omega)
    unfold fitD at p0
    rw [e0] at p0
    have s0 := hn 0 (by omega)
    rw [e0] at s0
    have p1 := hf 1 (by omega)
    unfold fitD at p1
    rw [e1] at p1
    have s1 := hn 1 (by omega)
    rw [e1] at s1
    have p2 := hf 2 (by omega)
    unfold fitD at p2
    rw [e2] at p2
    have s2 := hn 2 (by omega)
    rw [e2] at s2
    rw [e3] at hg
    clear hf hn e0 e1 e2 e3
    rintro f ⟨f0, f1, f2, f3, g⟩; omega
end Bk
end Go.Proofs.YtipjmaimjchckaaGreatDoor

/-! PLAIN LAW: which years and dates are right. -/
set_option linter.unusedSimpArgs false
set_option linter.unusedVariables false
namespace Go.Proofs.YtipjmaimjchckaaGreatDoor
namespace Bk

/-- A power of ten, by a name that the walk leaves alone. -/
def p10 (k : Nat) : Int := 10 ^ k
theorem pow_int (k : Nat) (h : k ≤ 18) : (1 : Int) ≤ 10 ^ k ∧ (10 : Int) ^ k ≤ 1000000000000000000 := by
  have h1 : (10 : Nat) ^ k ≤ 10 ^ 18 := Nat.pow_le_pow_right (by omega) h
  have h2 : 0 < (10 : Nat) ^ k := Nat.pos_of_ne_zero (by simp)
  have h3 : (10 : Nat) ^ 18 = 1000000000000000000 := by decide
  have e : ((10 : Int) ^ k) = ((10 ^ k : Nat) : Int) := by simp
  rw [e]; omega
theorem p10_succ (k : Nat) : p10 (k + 1) = p10 k * 10 := by unfold p10; rw [Int.pow_succ]
theorem p10_bd (k : Nat) (h : k ≤ 18) : 1 ≤ p10 k ∧ p10 k ≤ 1000000000000000000 := pow_int k h
theorem p10_pos (k : Nat) : 1 ≤ p10 k := by
  unfold p10
  have e : ((10 : Int) ^ k) = ((10 ^ k : Nat) : Int) := by simp
  have h2 : 0 < (10 : Nat) ^ k := Nat.pos_of_ne_zero (by simp)
  rw [e]; omega

/-- The number that a text's digits are. -/
def decS (s : ByteArray) : Int := (dec s.data.toList 0 : Nat)
theorem decS_pos (s : ByteArray) : 0 ≤ decS s := by unfold decS; omega
/-- The value of digits and a power of ten. -/
def magV (s : ByteArray) (ex : Int) : Int := decS s * p10 ex.toNat
def isZ (x : Int) : Bool := decide (x = 48)

def longOk (s : ByteArray) (ex : Int) : Bool :=
  decide (1 ≤ s.size) && (decide (s.size ≤ 17) && (allB isDig s && (!decide (byt s 0 = 48) && (decide (0 ≤ ex) && (decide (ex ≤ 16) && (!(decide (ex = 0) && decide (s.size < 5)) && decide (magV s ex ≤ 10000000000000000)))))))
def shortOk (neg : Bool) (s : ByteArray) (ex sig : Int) : Bool :=
  decide (s.size = 4) && (allB isDigX s && (decide (ex = 0) && (!(neg && allB isZ s) && !(!decide (sig = 0) && hasB 88 s))))
/-- A year is right. -/
def yOk (neg long : Bool) (s : ByteArray) (ex sig : Int) : Bool := (if long then longOk s ex else shortOk neg s ex sig) && (decide (0 ≤ sig) && decide (sig ≤ s.size + ex))

theorem yOk_long {neg : Bool} {s : ByteArray} {ex sig : Int} (h : yOk neg true s ex sig = true) : 1 ≤ s.size ∧ s.size ≤ 17 ∧ allB isDig s = true ∧ byt s 0 ≠ 48 ∧ 0 ≤ ex ∧ ex ≤ 16 ∧ magV s ex ≤ 10000000000000000 ∧ 0 ≤ sig ∧ sig ≤ s.size + ex := by
  unfold yOk longOk at h
  simp at h
  obtain ⟨⟨h1, h2, h3, h4, h5, h6, h7, h8⟩, h9, h10⟩ := h
  exact ⟨h1, h2, h3, h4, h5, h6, h8, h9, h10⟩
theorem yOk_short {neg : Bool} {s : ByteArray} {ex sig : Int} (h : yOk neg false s ex sig = true) : s.size = 4 ∧ allB isDigX s = true ∧ ex = 0 ∧ (neg = true → allB isZ s = false) ∧ (sig ≠ 0 → hasB 88 s = false) ∧ 0 ≤ sig ∧ sig ≤ 4 := by
  unfold yOk shortOk at h
  simp at h
  obtain ⟨⟨h1, h2, h3, h4, h5⟩, h9, h10⟩ := h
  exact ⟨h1, h2, h3, fun hn => by cases h4 with
    | inl h => rw [hn] at h; cases h
    | inr h => exact h, fun hs => by cases h5 with
    | inl h => exact absurd h hs
    | inr h => exact h, h9, by omega⟩

/-- A number agrees with two bytes. -/
def agrB (s : ByteArray) (n : Int) : Bool := decide (s.size = 2) && ((decide (byt s 0 = 88) || decide (byt s 0 = 48 + n / 10)) && (decide (byt s 1 = 88) || decide (byt s 1 = 48 + n % 10)))
/-- Some number from 1 to a greatest one does. -/
def someA (s : ByteArray) (g : Nat) : Bool := (List.range g).any fun i => agrB s ((i : Int) + 1)
theorem someA_succ (s : ByteArray) (g : Nat) : someA s (g + 1) = (someA s g || agrB s ((g : Int) + 1)) := by
  unfold someA; rw [List.range_succ, List.any_append]; simp
theorem someA_mono {s : ByteArray} {g h : Nat} (hle : g ≤ h) (hs : someA s g = true) : someA s h = true := by
  unfold someA at hs ⊢
  rw [List.any_eq_true] at hs ⊢
  obtain ⟨i, hi, ha⟩ := hs
  exact ⟨i, by rw [List.mem_range] at hi ⊢; omega, ha⟩
theorem someA_iff (s : ByteArray) (g : Nat) : someA s g = true ↔ ∃ n : Int, 1 ≤ n ∧ n ≤ g ∧ agrB s n = true := by
  unfold someA
  rw [List.any_eq_true]
  constructor
  · rintro ⟨i, hi, ha⟩
    rw [List.mem_range] at hi
    exact ⟨(i : Int) + 1, by omega, by omega, ha⟩
  · rintro ⟨n, h1, h2, ha⟩
    refine ⟨(n - 1).toNat, by rw [List.mem_range]; omega, ?_⟩
    rw [show (((n - 1).toNat : Nat) : Int) + 1 = n by omega]; exact ha

def comps (mo da : ByteArray) : Int := 1 + (if mo.size = 0 then 0 else 1) + (if da.size = 0 then 0 else 1)
/-- The error of the marks of so many components. -/
def marksE (a b c n : Int) : Int := if a ≤ 3 ∧ b ≤ 3 ∧ c ≤ 3 ∧ (n < 3 → c = 0) ∧ (n < 2 → b = 0) then 0 else 9

/-- A date as it is written. -/
structure Dt where
  neg : Bool
  long : Bool
  dg : ByteArray
  ex : Int
  sig : Int
  mo : ByteArray
  da : ByteArray
  m0 : Int
  m1 : Int
  m2 : Int

def Dt.yok (d : Dt) : Bool := yOk d.neg d.long d.dg d.ex d.sig
def Dt.mag (d : Dt) : Int := magV d.dg d.ex
def Dt.mask (d : Dt) : Bool := hasB 88 d.dg
def Dt.season (d : Dt) : Int := seasonC d.mo
/-- A winter of the last year goes on beyond the calendar. -/
def Dt.far (d : Dt) : Bool := (decide (d.season = 24) || (decide (d.season = 28) || decide (d.season = 30))) && (!d.mask && (decide (d.mag = 10000000000000000) && !d.neg))
/-- The year of a date is right. -/
def Dt.yearOk (d : Dt) : Bool := d.yok && (!(decide (0 < d.sig) && !decide (d.mo.size = 0)) && !d.far)
/-- The error of the form of a date. -/
def Dt.form (d : Dt) : Int :=
  if d.yearOk = false then 6
  else if (!decide (d.mo.size = 0) && (decide (d.season = 0) && !someA d.mo 12)) = true then 7
  else if (!decide (d.da.size = 0) && (decide (d.mo.size = 0) || (!decide (d.season = 0) || !someA d.da 31))) = true then 8
  else marksE d.m0 d.m1 d.m2 (comps d.mo d.da)

/-- A number is one of the years of a right date without Sig. -/
def Dt.In (d : Dt) (y : Int) : Prop := if d.mask = true then (if d.neg = true then Mat (byt d.dg) (-y) ∧ y ≠ 0 else Mat (byt d.dg) y) else y = (if d.neg = true then -d.mag else d.mag)
end Bk
end Go.Proofs.YtipjmaimjchckaaGreatDoor

/-! PLAIN LAW: how many bytes of a text are from one to another one. -/
set_option linter.unusedSimpArgs false
set_option linter.unusedVariables false
namespace Go.Proofs.YtipjmaimjchckaaGreatDoor
namespace Bk

def cntL (a b : Int) (l : List UInt8) : Int := (l.filter fun c => decide (a ≤ (c.toNat : Int)) && decide ((c.toNat : Int) ≤ b)).length
theorem cntL_le (a b : Int) (l : List UInt8) : 0 ≤ cntL a b l ∧ cntL a b l ≤ l.length := by
  unfold cntL; exact ⟨by omega, by have := List.length_filter_le (fun c : UInt8 => decide (a ≤ (c.toNat : Int)) && decide ((c.toNat : Int) ≤ b)) l; omega⟩
theorem take_snoc (s : ByteArray) (k : Nat) (h : k < s.size) : s.data.toList.take (k + 1) = s.data.toList.take k ++ [s[k]] := by
  rw [List.take_succ_eq_append_getElem (by simpa using h)]; rfl
theorem cntL_snoc (a b : Int) (l : List UInt8) (c : UInt8) : cntL a b (l ++ [c]) = cntL a b l + if a ≤ (c.toNat : Int) ∧ (c.toNat : Int) ≤ b then 1 else 0 := by
  unfold cntL
  rw [List.filter_append]
  by_cases h : a ≤ (c.toNat : Int) <;> by_cases h2 : (c.toNat : Int) ≤ b <;> simp [List.filter_cons, h, h2]
theorem cntL_cons (a b : Int) (l : List UInt8) (c : UInt8) : cntL a b (c :: l) = cntL a b l + if a ≤ (c.toNat : Int) ∧ (c.toNat : Int) ≤ b then 1 else 0 := by
  unfold cntL
  by_cases h : a ≤ (c.toNat : Int) <;> by_cases h2 : (c.toNat : Int) ≤ b <;> simp [List.filter_cons, h, h2]

def cntB (a b : Int) (s : ByteArray) : Int := cntL a b s.data.toList
theorem cntB_le (a b : Int) (s : ByteArray) : 0 ≤ cntB a b s ∧ cntB a b s ≤ s.size := by
  have := cntL_le a b s.data.toList
  unfold cntB; simpa using this

theorem cnt_digX : ∀ l : List UInt8, (cntL 48 57 l + cntL 88 88 l = l.length ↔ (l.all fun b => isDigX (b.toNat : Int)) = true) ∧ cntL 48 57 l + cntL 88 88 l ≤ l.length
  | [] => by simp [cntL]
  | c :: l => by
    obtain ⟨ih, ih2⟩ := cnt_digX l
    rw [cntL_cons, cntL_cons, List.all_cons, Bool.and_eq_true, ← ih, List.length_cons]
    unfold isDigX
    by_cases h : (48 : Int) ≤ (c.toNat : Int) ∧ (c.toNat : Int) ≤ 57
    · rw [if_pos h, if_neg (by omega)]
      simp [h]
      omega
    · rw [if_neg h]
      by_cases h2 : (c.toNat : Int) = 88
      · rw [if_pos (by omega)]
        simp [h2]
        omega
      · rw [if_neg (by omega)]
        simp [h, h2]
        omega
theorem digX_iff (s : ByteArray) : (cntB 48 57 s + cntB 88 88 s = s.size) ↔ allB isDigX s = true := by
  have := (cnt_digX s.data.toList).1
  unfold cntB allB
  simpa using this

theorem cnt_x : ∀ l : List UInt8, (0 < cntL 88 88 l) ↔ (l.any fun b => decide ((b.toNat : Int) = 88)) = true
  | [] => by simp [cntL]
  | c :: l => by
    have ih := cnt_x l
    have := (cntL_le 88 88 l).1
    rw [cntL_cons, List.any_cons, Bool.or_eq_true, ← ih, decide_eq_true_iff]
    by_cases h : (c.toNat : Int) = 88
    · rw [if_pos (by omega)]; omega
    · rw [if_neg (by omega)]; omega
theorem x_iff (s : ByteArray) : (0 < cntB 88 88 s) ↔ hasB 88 s = true := cnt_x _

theorem cnt_one (a : Int) : ∀ l : List UInt8, (cntL a a l = l.length) ↔ (l.all fun b => decide ((b.toNat : Int) = a)) = true
  | [] => by simp [cntL]
  | c :: l => by
    have ih := cnt_one a l
    have := (cntL_le a a l).2
    rw [cntL_cons, List.all_cons, Bool.and_eq_true, ← ih, decide_eq_true_iff, List.length_cons]
    by_cases h : (c.toNat : Int) = a
    · rw [if_pos (by omega)]; omega
    · rw [if_neg (by omega)]; omega
theorem z_iff (s : ByteArray) (h : s.size = 4) : (cntB 48 48 s = 4) ↔ allB isZ s = true := by
  have := cnt_one 48 s.data.toList
  unfold cntB allB isZ
  have e : (s.data.toList.length : Int) = 4 := by simp; omega
  rw [e] at this
  exact this

/-- Digits alone: no X, and as many digits as bytes. -/
theorem cnt_dig : ∀ l : List UInt8, (l.all fun b => isDigX (b.toNat : Int)) = true → ((l.any fun b => decide ((b.toNat : Int) = 88)) = false ↔ (l.all fun b => isDig (b.toNat : Int)) = true)
  | [], _ => by simp
  | c :: l, h => by
    rw [List.all_cons, Bool.and_eq_true] at h
    have ih := cnt_dig l h.2
    rw [List.any_cons, List.all_cons, Bool.or_eq_false_iff, Bool.and_eq_true, ih]
    have h1 := h.1
    unfold isDigX at h1
    unfold isDig
    by_cases h2 : (c.toNat : Int) = 88
    · simp [h2]
    · simp [h2] at h1
      simp [h2, h1]
theorem dig_iff {s : ByteArray} (h : allB isDigX s = true) : hasB 88 s = false ↔ allB isDig s = true := cnt_dig _ h
theorem dig_digX {s : ByteArray} (h : allB isDig s = true) : allB isDigX s = true := by
  rw [allB_iff] at h ⊢
  intro i hi
  have := h i hi
  unfold isDig at this
  unfold isDigX
  rw [this]; rfl
end Bk
end Go.Proofs.YtipjmaimjchckaaGreatDoor

/-! PLAIN LAW: the number of digits and a power of ten, place by place. -/
set_option linter.unusedSimpArgs false
set_option linter.unusedVariables false
namespace Go.Proofs.YtipjmaimjchckaaGreatDoor
namespace Bk

def magP (s : ByteArray) (k : Nat) : Int := if k ≤ s.size then (dec (s.data.toList.take k) 0 : Nat) else decS s * p10 (k - s.size)
theorem magP_zero (s : ByteArray) : magP s 0 = 0 := by unfold magP; rw [if_pos (Nat.zero_le _)]; rfl
theorem magP_all (s : ByteArray) (e : Nat) : magP s (s.size + e) = magV s e := by
  unfold magP magV
  by_cases h : s.size + e ≤ s.size
  · obtain rfl : e = 0 := by omega
    rw [if_pos h, List.take_of_length_le (by simp)]
    unfold decS p10
    simp
  · rw [if_neg h, show s.size + e - s.size = e by omega, Int.toNat_natCast]
theorem dig_at {s : ByteArray} (h : allB isDig s = true) (k : Nat) (hk : k < s.size) : 48 ≤ ((s[k]'hk).toNat : Int) ∧ ((s[k]'hk).toNat : Int) ≤ 57 := by
  have := (allB_iff _ _).1 h k hk
  rw [byt_get s k hk] at this
  exact of_decide_eq_true this
theorem magP_dig {s : ByteArray} (h : allB isDig s = true) (k : Nat) (hk : k < s.size) : magP s (k + 1) = 10 * magP s k + (((s[k]'hk).toNat : Int) - 48) := by
  unfold magP
  rw [if_pos (by omega), if_pos (by omega), take_snoc s k hk, dec_snoc]
  have := dig_at h k hk
  omega
theorem magP_pow (s : ByteArray) (k : Nat) (hk : s.size ≤ k) : magP s (k + 1) = 10 * magP s k := by
  unfold magP
  rw [if_neg (by omega)]
  by_cases c : k ≤ s.size
  · obtain rfl : k = s.size := by omega
    rw [if_pos c, show s.size + 1 - s.size = 1 by omega, List.take_of_length_le (by simp)]
    unfold decS p10
    omega
  · rw [if_neg c, show k + 1 - s.size = (k - s.size) + 1 by omega, p10_succ]
    rw [← Int.mul_assoc, Int.mul_comm]
theorem magP_pos (s : ByteArray) (k : Nat) : 0 ≤ magP s k := by
  unfold magP
  split
  · omega
  · exact Int.mul_nonneg (decS_pos s) (by have := p10_pos (k - s.size); omega)
theorem magP_step {s : ByteArray} (h : allB isDig s = true) (k : Nat) : magP s k ≤ magP s (k + 1) := by
  have := magP_pos s k
  by_cases c : k < s.size
  · rw [magP_dig h k c]; have := dig_at h k c; omega
  · rw [magP_pow s k (by omega)]; omega
theorem magP_mono {s : ByteArray} (h : allB isDig s = true) (k : Nat) : ∀ j, magP s k ≤ magP s (k + j)
  | 0 => Int.le_refl _
  | j + 1 => Int.le_trans (magP_mono h k j) (magP_step h (k + j))
theorem magV_pos (s : ByteArray) (e : Int) : 0 ≤ magV s e := Int.mul_nonneg (decS_pos s) (by have := p10_pos e.toNat; omega)
theorem allB_digB {s : ByteArray} (h : allB isDig s = true) : s.data.toList.all digB = true := by
  unfold allB at h
  rw [List.all_eq_true] at h ⊢
  intro c hc
  have := h c hc
  unfold isDig at this
  have := of_decide_eq_true this
  unfold digB
  rw [decide_eq_true_iff]
  omega
theorem decS_lt {s : ByteArray} (h : allB isDig s = true) (hs : s.size ≤ 17) : decS s < 100000000000000000 := by
  have := dec_lt s.data.toList 0 0 (allB_digB h) (by decide)
  rw [Nat.zero_add] at this
  have hp : (10 : Nat) ^ s.data.toList.length ≤ 10 ^ 17 := Nat.pow_le_pow_right (by omega) (by simpa using hs)
  have hp2 : (10 : Nat) ^ 17 = 100000000000000000 := by decide
  unfold decS
  omega
theorem decS_lt4 {s : ByteArray} (h : allB isDig s = true) (hs : s.size = 4) : decS s < 10000 := by
  have := dec_lt s.data.toList 0 0 (allB_digB h) (by decide)
  rw [Nat.zero_add, show s.data.toList.length = 4 by simpa using hs] at this
  unfold decS
  omega
end Bk
end Go.Proofs.YtipjmaimjchckaaGreatDoor

/-! PLAIN LAW: the months and days that agree with texts; fillings and their order. -/
set_option linter.unusedSimpArgs false
set_option linter.unusedVariables false
namespace Go.Proofs.YtipjmaimjchckaaGreatDoor
namespace Bk

/-- The numbers from 1 to a greatest one that agree with a text. -/
def fitsL (s : ByteArray) : Nat → List Int
  | 0 => []
  | g + 1 => fitsL s g ++ (if agrB s ((g : Int) + 1) then [(g : Int) + 1] else [])
theorem fitsL_succ (s : ByteArray) (g : Nat) : fitsL s (g + 1) = fitsL s g ++ (if agrB s ((g : Int) + 1) then [(g : Int) + 1] else []) := rfl
theorem fitsL_yes {s : ByteArray} {g : Nat} (h : agrB s ((g : Int) + 1) = true) : fitsL s (g + 1) = fitsL s g ++ [(g : Int) + 1] := by rw [fitsL_succ, if_pos h]
theorem fitsL_no {s : ByteArray} {g : Nat} (h : agrB s ((g : Int) + 1) = false) : fitsL s (g + 1) = fitsL s g := by rw [fitsL_succ, if_neg (by rw [h]; decide), List.append_nil]
theorem fitsL_len (s : ByteArray) : ∀ g, (fitsL s g).length ≤ g
  | 0 => Nat.le_refl _
  | g + 1 => by
    have := fitsL_len s g
    rw [fitsL_succ, List.length_append]
    split <;> simp <;> omega
theorem mem_fitsL (s : ByteArray) (n : Int) : ∀ g : Nat, n ∈ fitsL s g ↔ (1 ≤ n ∧ n ≤ g ∧ agrB s n = true)
  | 0 => by simp [fitsL]; omega
  | g + 1 => by
    have ih := mem_fitsL s n g
    rw [fitsL_succ, List.mem_append, ih]
    by_cases h : agrB s ((g : Int) + 1) = true
    · rw [if_pos h, List.mem_singleton]
      constructor
      · rintro (⟨h1, h2, h3⟩ | rfl)
        · exact ⟨h1, by omega, h3⟩
        · exact ⟨by omega, by omega, h⟩
      · rintro ⟨h1, h2, h3⟩
        by_cases e : n = (g : Int) + 1
        · exact .inr e
        · exact .inl ⟨h1, by omega, h3⟩
    · rw [if_neg h]
      constructor
      · rintro (⟨h1, h2, h3⟩ | h)
        · exact ⟨h1, by omega, h3⟩
        · cases h
      · rintro ⟨h1, h2, h3⟩
        refine .inl ⟨h1, ?_, h3⟩
        by_cases e : n = (g : Int) + 1
        · subst e; exact absurd h3 h
        · omega
theorem fitsL_sorted (s : ByteArray) : ∀ g, (fitsL s g).Pairwise (· < ·)
  | 0 => List.Pairwise.nil
  | g + 1 => by
    rw [fitsL_succ, List.pairwise_append]
    refine ⟨fitsL_sorted s g, ?_, ?_⟩
    · split <;> simp
    · intro a ha b hb
      have := (mem_fitsL s a g).1 ha
      split at hb
      · rw [List.mem_singleton] at hb; omega
      · cases hb
theorem fitsL_some (s : ByteArray) (g : Nat) : someA s g = true ↔ fitsL s g ≠ [] := by
  rw [someA_iff]
  constructor
  · rintro ⟨n, h1, h2, h3⟩ e
    have := (mem_fitsL s n g).2 ⟨h1, h2, h3⟩
    rw [e] at this; cases this
  · intro h
    cases e : fitsL s g with
    | nil => exact absurd e h
    | cons a l =>
      have := (mem_fitsL s a g).1 (by rw [e]; exact List.mem_cons_self ..)
      exact ⟨a, this⟩

/-- The months of a date's fillings (0: none; above 12: a season). -/
def Dt.ms (d : Dt) : List Int := if d.season ≠ 0 then [d.season] else if d.mo.size = 0 then [0] else fitsL d.mo 12
/-- The days, of the longest month. -/
def Dt.ds (d : Dt) : List Int := if d.da.size = 0 then [0] else fitsL d.da 31
/-- How many days a month has, if the date has a day. -/
def Dt.len (d : Dt) (y m : Int) : Int := if d.da.size = 0 then 0 else Cal.len y m

theorem Dt.ms_sorted (d : Dt) : d.ms.Pairwise (· < ·) := by
  unfold Dt.ms; split
  · simp
  · split
    · simp
    · exact fitsL_sorted _ _
theorem Dt.ds_sorted (d : Dt) : d.ds.Pairwise (· < ·) := by
  unfold Dt.ds; split
  · simp
  · exact fitsL_sorted _ _
theorem Dt.ms_len (d : Dt) : d.ms.length ≤ 12 := by
  unfold Dt.ms; split
  · simp
  · split
    · simp
    · exact fitsL_len _ _
theorem Dt.ds_len (d : Dt) : d.ds.length ≤ 31 := by
  unfold Dt.ds; split
  · simp
  · exact fitsL_len _ _

/-- A civil is a filling of a date. -/
def Dt.Fill (d : Dt) (y m k : Int) : Prop := d.In y ∧ m ∈ d.ms ∧ k ∈ d.ds ∧ k ≤ d.len y m
/-- It is not less than another one, by the components that the date has. -/
def Dt.ge (d : Dt) (y m k cy cm ck : Int) : Prop := cy < y ∨ (y = cy ∧ (d.mo.size = 0 ∨ cm < m ∨ (m = cm ∧ (d.da.size = 0 ∨ ck ≤ k))))
def lt3 (y m k z n j : Int) : Prop := y < z ∨ (y = z ∧ (m < n ∨ (m = n ∧ k < j)))

/-- What seek finds, upwards. -/
def Dt.Sought (d : Dt) (cy cm ck : Int) (y m k : Int) (found : Bool) : Prop :=
  (found = true ∧ d.Fill y m k ∧ d.ge y m k cy cm ck ∧ ∀ z n j, d.Fill z n j → d.ge z n j cy cm ck → ¬ lt3 z n j y m k) ∨
  (found = false ∧ y = 0 ∧ m = 0 ∧ k = 0 ∧ ∀ z n j, d.Fill z n j → ¬ d.ge z n j cy cm ck)

/-- The year next to a number, upwards. -/
def Dt.Year (d : Dt) (n v : Int) (ok : Bool) : Prop :=
  (ok = true ∧ d.In v ∧ n ≤ v ∧ ∀ u, d.In u → n ≤ u → v ≤ u) ∨ (ok = false ∧ ∀ u, d.In u → ¬ n ≤ u)

/-- No month ahead of a place in the list has a filling in the year. -/
def Dt.NoM (d : Dt) (y cy cm ck : Int) (i : Nat) : Prop := ∀ j, j < i → ∀ (h : j < d.ms.length), ∀ k, k ∈ d.ds → k ≤ d.len y (d.ms[j]'h) → ¬ d.ge y (d.ms[j]'h) k cy cm ck
/-- No day ahead of a place in the list is a filling in the month. -/
def Dt.NoK (d : Dt) (y m cy cm ck : Int) (i : Nat) : Prop := ∀ j, j < i → ∀ (h : j < d.ds.length), (d.ds[j]'h) ≤ d.len y m → ¬ d.ge y m (d.ds[j]'h) cy cm ck
/-- No year ahead of a number has a filling. -/
def Dt.NoY (d : Dt) (y cy cm ck : Int) : Prop := ∀ z n j, d.Fill z n j → z < y → ¬ d.ge z n j cy cm ck

theorem Dt.noM_zero (d : Dt) (y cy cm ck : Int) : d.NoM y cy cm ck 0 := fun j h => by omega
theorem Dt.noK_zero (d : Dt) (y m cy cm ck : Int) : d.NoK y m cy cm ck 0 := fun j h => by omega
theorem Dt.noK_succ {d : Dt} {y m cy cm ck : Int} {i : Nat} (h : d.NoK y m cy cm ck i) (hi : i < d.ds.length) (hn : (d.ds[i]'hi) ≤ d.len y m → ¬ d.ge y m (d.ds[i]'hi) cy cm ck) : d.NoK y m cy cm ck (i + 1) := by
  intro j hj hl
  by_cases e : j = i
  · subst e; exact hn
  · exact h j (by omega) hl
theorem Dt.noM_succ {d : Dt} {y cy cm ck : Int} {i : Nat} (h : d.NoM y cy cm ck i) (hi : i < d.ms.length) (hn : d.NoK y (d.ms[i]'hi) cy cm ck d.ds.length) : d.NoM y cy cm ck (i + 1) := by
  intro j hj hl
  by_cases e : j = i
  · subst e
    intro k hk hkl
    obtain ⟨a, ha, rfl⟩ := List.getElem_of_mem hk
    exact hn a ha ha hkl
  · exact h j (by omega) hl
/-- A month that is skipped. -/
theorem Dt.noM_skip {d : Dt} {y cy cm ck : Int} {i : Nat} (h : d.NoM y cy cm ck i) (hi : i < d.ms.length) (hy : y = cy) (hm : d.mo.size ≠ 0) (hlt : (d.ms[i]'hi) < cm) : d.NoM y cy cm ck (i + 1) := by
  intro j hj hl
  by_cases e : j = i
  · subst e
    rintro k hk hkl (g | ⟨g, g | g | ⟨g, _⟩⟩) <;> omega
  · exact h j (by omega) hl
theorem Dt.noY_next {d : Dt} {y v cy cm ck : Int} {ok : Bool} (h : d.NoY y cy cm ck) (hm : d.NoM y cy cm ck d.ms.length) (hy : d.Year (y + 1) v ok) :
    (ok = true → d.NoY v cy cm ck) ∧ (ok = false → ∀ z n j, d.Fill z n j → ¬ d.ge z n j cy cm ck) := by
  have key : ∀ z n j, d.Fill z n j → z ≤ y → ¬ d.ge z n j cy cm ck := by
    intro z n j hf hz
    by_cases e : z = y
    · subst e
      obtain ⟨h1, h2, h3, h4⟩ := hf
      obtain ⟨a, ha, rfl⟩ := List.getElem_of_mem h2
      exact hm a ha ha j h3 h4
    · exact h z n j hf (by omega)
  constructor
  · rintro rfl z n j hf hz
    rcases hy with ⟨_, _, _, hmin⟩ | ⟨h, _⟩
    · exact key z n j hf (by have := hmin z hf.1; omega)
    · cases h
  · rintro rfl z n j hf
    rcases hy with ⟨h, _⟩ | ⟨_, hno⟩
    · cases h
    · exact key z n j hf (by have := hno z hf.1; omega)
theorem Dt.noY_start {d : Dt} {v cy cm ck : Int} {ok : Bool} (hy : d.Year cy v ok) :
    (ok = true → d.NoY v cy cm ck) ∧ (ok = false → ∀ z n j, d.Fill z n j → ¬ d.ge z n j cy cm ck) := by
  have low : ∀ z n j, z < cy → ¬ d.ge z n j cy cm ck := by rintro z n j h (g | ⟨g, _⟩) <;> omega
  constructor
  · rintro rfl z n j hf hz
    rcases hy with ⟨_, _, _, hmin⟩ | ⟨h, _⟩
    · exact low z n j (by have := hmin z hf.1; omega)
    · cases h
  · rintro rfl z n j hf
    rcases hy with ⟨h, _⟩ | ⟨_, hno⟩
    · cases h
    · exact low z n j (by have := hno z hf.1; omega)
theorem sorted_lt {l : List Int} (hs : l.Pairwise (· < ·)) {i j : Nat} (hi : i < l.length) (hj : j < l.length) (h : (l[j]'hj) < (l[i]'hi)) : j < i := by
  by_cases c : j < i
  · exact c
  · exfalso
    by_cases e : i = j
    · subst e; omega
    · have := List.pairwise_iff_getElem.1 hs i j hi hj (by omega)
      omega
/-- A filling is found. -/
theorem Dt.found {d : Dt} {y cy cm ck : Int} {i j : Nat} (hY : d.In y) (hN : d.NoY y cy cm ck) (hM : d.NoM y cy cm ck i) (hi : i < d.ms.length) (hK : d.NoK y (d.ms[i]'hi) cy cm ck j) (hj : j < d.ds.length)
    (hl : (d.ds[j]'hj) ≤ d.len y (d.ms[i]'hi)) (hg : d.ge y (d.ms[i]'hi) (d.ds[j]'hj) cy cm ck) : d.Sought cy cm ck y (d.ms[i]'hi) (d.ds[j]'hj) true := by
  refine .inl ⟨rfl, ⟨hY, List.getElem_mem hi, List.getElem_mem hj, hl⟩, hg, ?_⟩
  intro z n k hf hge hlt
  rcases hlt with h | ⟨rfl, h | ⟨rfl, h⟩⟩
  · exact hN z n k hf h hge
  · obtain ⟨_, h2, h3, h4⟩ := hf
    obtain ⟨a, ha, rfl⟩ := List.getElem_of_mem h2
    exact hM a (sorted_lt d.ms_sorted hi ha h) ha k h3 h4 hge
  · obtain ⟨_, h2, h3, h4⟩ := hf
    obtain ⟨a, ha, rfl⟩ := List.getElem_of_mem h3
    exact hK a (sorted_lt d.ds_sorted hj ha h) ha h4 hge

/-- The civil, by the components that the date has, is a filling exactly if it is found by itself. -/
def Dt.Is (d : Dt) (y m k cy cm ck : Int) : Bool := decide (y = cy) && ((decide (d.mo.size = 0) || decide (m = cm)) && (decide (d.da.size = 0) || decide (k = ck)))
theorem Dt.sought_has {d : Dt} {y m k cy cm ck : Int} {found : Bool} (hd : d.mo.size = 0 → d.da.size = 0) (h : d.Sought cy cm ck y m k found) :
    (found && d.Is y m k cy cm ck) = true ↔ ∃ n j, d.Fill cy n j ∧ (d.mo.size = 0 ∨ n = cm) ∧ (d.da.size = 0 ∨ j = ck) := by
  unfold Dt.Is
  simp only [Bool.and_eq_true, Bool.or_eq_true, decide_eq_true_eq]
  constructor
  · rintro ⟨rfl, rfl, hm, hk⟩
    rcases h with ⟨_, hf, _⟩ | ⟨h, _⟩
    · exact ⟨m, k, hf, hm, hk⟩
    · cases h
  · rintro ⟨n, j, hf, hn, hj⟩
    have hge : d.ge cy n j cy cm ck := by
      refine .inr ⟨rfl, ?_⟩
      rcases hn with h | h
      · exact .inl h
      · refine .inr (.inr ⟨h, ?_⟩)
        rcases hj with g | g
        · exact .inl g
        · exact .inr (by omega)
    rcases h with ⟨rfl, hF, hG, hmin⟩ | ⟨_, _, _, _, hno⟩
    · have hnl := hmin cy n j hf hge
      have hy : y = cy := by
        rcases hG with g | ⟨g, _⟩
        · exact absurd (.inl g) hnl
        · exact g
      subst hy
      refine ⟨rfl, rfl, ?_⟩
      by_cases h0 : d.mo.size = 0
      · exact ⟨.inl h0, .inl (hd h0)⟩
      · have hn : n = cm := by rcases hn with g | g; exact absurd g h0; exact g
        subst hn
        rcases hG with g | ⟨_, g | g | ⟨rfl, g⟩⟩
        · omega
        · exact absurd g h0
        · exact absurd (.inr ⟨rfl, .inl g⟩) hnl
        · refine ⟨.inr rfl, ?_⟩
          by_cases h1 : d.da.size = 0
          · exact .inl h1
          · right
            have hj : j = ck := by rcases hj with g | g; exact absurd g h1; exact g
            have hg : ck ≤ k := by rcases g with g | g; exact absurd g h1; exact g
            by_cases c : k = ck
            · exact c
            · exact absurd (.inr ⟨rfl, .inr ⟨rfl, by omega⟩⟩) hnl
    · exact absurd hge (hno cy n j hf)
theorem Dt.sought_some {d : Dt} {y m k cy cm ck : Int} {found : Bool} (hb : ∀ u, d.In u → cy < u) (h : d.Sought cy cm ck y m k found) : found = true ↔ ∃ y m k, d.Fill y m k := by
  constructor
  · rintro rfl
    rcases h with ⟨_, hf, _⟩ | ⟨h, _⟩
    · exact ⟨_, _, _, hf⟩
    · cases h
  · rintro ⟨z, n, j, hf⟩
    rcases h with ⟨h, _⟩ | ⟨_, _, _, _, hno⟩
    · exact h
    · exact absurd (.inl (hb z hf.1)) (hno z n j hf)

open Classical in
/-- The error of a date. -/
noncomputable def Dt.err (d : Dt) : Int := if d.form ≠ 0 then d.form else if d.da.size ≠ 0 ∧ ¬ ∃ y m k, d.Fill y m k then 8 else 0

theorem marksE_vals (a b c n : Int) : marksE a b c n = 0 ∨ marksE a b c n = 9 := by unfold marksE; split; exact .inl rfl; exact .inr rfl
theorem Dt.form_zero {d : Dt} (h : d.form = 0) : d.yearOk = true ∧ (d.mo.size = 0 ∨ d.season ≠ 0 ∨ someA d.mo 12 = true) ∧ (d.da.size = 0 ∨ (d.mo.size ≠ 0 ∧ d.season = 0 ∧ someA d.da 31 = true)) ∧ marksE d.m0 d.m1 d.m2 (comps d.mo d.da) = 0 := by
  unfold Dt.form at h
  split at h
  · omega
  · rename_i h1
    split at h
    · omega
    · rename_i h2
      split at h
      · omega
      · rename_i h3
        refine ⟨by simpa using h1, ?_, ?_, h⟩
        · by_cases c : d.mo.size = 0
          · exact .inl c
          · right
            by_cases c2 : d.season = 0
            · right
              cases e3 : someA d.mo 12
              · exact absurd (by rw [decide_eq_false c, decide_eq_true c2, e3]; rfl) h2
              · rfl
            · exact .inl c2
        · by_cases c : d.da.size = 0
          · exact .inl c
          · right
            have c1 : ¬ d.mo.size = 0 := fun e1 => h3 (by rw [decide_eq_true e1, decide_eq_false c]; rfl)
            have c2 : d.season = 0 := by
              by_cases e2 : d.season = 0
              · exact e2
              · exact absurd (by rw [decide_eq_false c1, decide_eq_false c, decide_eq_false e2]; rfl) h3
            refine ⟨c1, c2, ?_⟩
            cases e3 : someA d.da 31
            · exact absurd (by rw [decide_eq_false c1, decide_eq_false c, decide_eq_true c2, e3]; rfl) h3
            · rfl
theorem Dt.form_vals (d : Dt) : d.form = 0 ∨ d.form = 6 ∨ d.form = 7 ∨ d.form = 8 ∨ d.form = 9 := by
  unfold Dt.form
  have := marksE_vals d.m0 d.m1 d.m2 (comps d.mo d.da)
  (repeat' split) <;> omega
theorem Dt.yearOk_facts {d : Dt} (h : d.yearOk = true) : d.yok = true ∧ (0 < d.sig → d.mo.size = 0) ∧ d.far = false := by
  unfold Dt.yearOk at h
  rw [Bool.and_eq_true, Bool.and_eq_true] at h
  obtain ⟨h1, h2, h3⟩ := h
  refine ⟨h1, fun hs => ?_, by cases e : d.far; rfl; rw [e] at h3; cases h3⟩
  by_cases c : d.mo.size = 0
  · exact c
  · rw [decide_eq_true hs, decide_eq_false c] at h2; cases h2
theorem Dt.in_bd {d : Dt} (h : d.yok = true) {y : Int} (hy : d.In y) : -10000000000000000 ≤ y ∧ y ≤ 10000000000000000 := by
  unfold Dt.In at hy
  by_cases c : d.mask = true
  · rw [if_pos c] at hy
    split at hy
    · obtain ⟨⟨h1, h2, _⟩, _⟩ := hy; omega
    · obtain ⟨h1, h2, _⟩ := hy; omega
  · rw [if_neg c] at hy
    have h0 := magV_pos d.dg d.ex
    have h1 : magV d.dg d.ex ≤ 10000000000000000 := by
      unfold Dt.yok at h
      cases hl : d.long
      · rw [hl] at h
        obtain ⟨h1, h2, h3, _⟩ := yOk_short h
        have hd := (dig_iff h2).1 (by unfold Dt.mask at c; simpa using c)
        have := decS_lt4 hd h1
        have hz : magV d.dg 0 = decS d.dg := by unfold magV p10; simp
        rw [h3, hz]; omega
      · rw [hl] at h
        exact (yOk_long h).2.2.2.2.2.2.1
    unfold Dt.mag at hy
    split at hy <;> omega
end Bk
end Go.Proofs.YtipjmaimjchckaaGreatDoor

/-! PLAIN LAW: the least and the greatest number of a mask of four bytes; what is next to a number. -/
set_option linter.unusedSimpArgs false
set_option linter.unusedVariables false
namespace Go.Proofs.YtipjmaimjchckaaGreatDoor
namespace Bk

theorem least_mat {b o : Nat → Int} (hb : MOk b) (ho : ∀ i, i < 4 → o i = if b i = 88 then 48 else b i) : Mat b (val4 o) ∧ ∀ f, Mat b f → val4 o ≤ f := by
  have m0 := hb 0 (by omega); have m1 := hb 1 (by omega); have m2 := hb 2 (by omega); have m3 := hb 3 (by omega)
  have o0 := ho 0 (by omega); have o1 := ho 1 (by omega); have o2 := ho 2 (by omega); have o3 := ho 3 (by omega)
  simp only [mat_iff]
  unfold val4
  generalize b 0 = b0 at *; generalize b 1 = b1 at *; generalize b 2 = b2 at *; generalize b 3 = b3 at *
  constructor
  · refine ⟨o 0 - 48, o 1 - 48, o 2 - 48, o 3 - 48, ?_⟩
    split at o0 <;> split at o1 <;> split at o2 <;> split at o3 <;> (refine ⟨?_, ?_, ?_, ?_, ?_, ?_, ?_, ?_, ?_, ?_, ?_, ?_, ?_⟩ <;> omega)
  · rintro f ⟨d0, d1, d2, d3, a0, a1, a2, a3, a4, a5, a6, a7, rfl, e0, e1, e2, e3⟩
    split at o0 <;> split at o1 <;> split at o2 <;> split at o3 <;> omega
theorem greatest_mat {b o : Nat → Int} (hb : MOk b) (ho : ∀ i, i < 4 → o i = if b i = 88 then 57 else b i) : Mat b (val4 o) ∧ ∀ f, Mat b f → f ≤ val4 o := by
  have m0 := hb 0 (by omega); have m1 := hb 1 (by omega); have m2 := hb 2 (by omega); have m3 := hb 3 (by omega)
  have o0 := ho 0 (by omega); have o1 := ho 1 (by omega); have o2 := ho 2 (by omega); have o3 := ho 3 (by omega)
  simp only [mat_iff]
  unfold val4
  generalize b 0 = b0 at *; generalize b 1 = b1 at *; generalize b 2 = b2 at *; generalize b 3 = b3 at *
  constructor
  · refine ⟨o 0 - 48, o 1 - 48, o 2 - 48, o 3 - 48, ?_⟩
    split at o0 <;> split at o1 <;> split at o2 <;> split at o3 <;> (refine ⟨?_, ?_, ?_, ?_, ?_, ?_, ?_, ?_, ?_, ?_, ?_, ?_, ?_⟩ <;> omega)
  · rintro f ⟨d0, d1, d2, d3, a0, a1, a2, a3, a4, a5, a6, a7, rfl, e0, e1, e2, e3⟩
    split at o0 <;> split at o1 <;> split at o2 <;> split at o3 <;> omega

/-- The least number of a mask that is at least n, or an error. -/
def NextR (b : Nat → Int) (n v e : Int) : Prop := (e = 0 ∧ Mat b v ∧ n ≤ v ∧ ∀ f, Mat b f → n ≤ f → v ≤ f) ∨ (e = 16 ∧ v = 0 ∧ ∀ f, Mat b f → f < n)
/-- The greatest one that is at most n. -/
def PrevR (b : Nat → Int) (n v e : Int) : Prop := (e = 0 ∧ Mat b v ∧ v ≤ n ∧ ∀ f, Mat b f → f ≤ n → f ≤ v) ∨ (e = 16 ∧ v = 0 ∧ ∀ f, Mat b f → n < f)
theorem nextR_bd {b : Nat → Int} {n v e : Int} (h : NextR b n v e) : 0 ≤ v ∧ v ≤ 9999 ∧ (e = 0 ∨ e = 16) := by
  rcases h with ⟨h1, ⟨h2, h3, _⟩, _⟩ | ⟨h1, h2, _⟩ <;> omega
theorem prevR_bd {b : Nat → Int} {n v e : Int} (h : PrevR b n v e) : 0 ≤ v ∧ v ≤ 9999 ∧ (e = 0 ∨ e = 16) := by
  rcases h with ⟨h1, ⟨h2, h3, _⟩, _⟩ | ⟨h1, h2, _⟩ <;> omega
end Bk
end Go.Proofs.YtipjmaimjchckaaGreatDoor

