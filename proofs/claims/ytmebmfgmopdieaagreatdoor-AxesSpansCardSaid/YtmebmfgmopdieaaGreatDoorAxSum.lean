/- Sums, differences and halves of doubles: the exact result, rounded. Plain facts on Ieee.double. No program in sight. -/
import Derived.Test.YtmebmfgmopdieaaGreatDoorAxNum
set_option linter.unusedSimpArgs false
set_option linter.unusedVariables false
namespace Go.Proofs.YtmebmfgmopdieaaGreatDoor
namespace Fl

def sg (x : Nat) : Bool := decide (9223372036854775808 ≤ x)
/-- A finite number, or an infinity, or NaN. -/
def fin (x : Nat) : Bool := decide (x % 9223372036854775808 < 9218868437227405312)
/-- The word nearest to a value; nz: the sign of a zero. -/
def rndW (nz : Bool) (s : Int) : Nat := wd (if s = 0 then nz else decide (s < 0)) (min (rr s.natAbs) 9218868437227405312)

theorem rndW_lt (nz : Bool) (s : Int) : rndW nz s < 18446744073709551616 := wd_lt (by omega)
theorem rndW_nan (nz : Bool) (s : Int) : nan (rndW nz s) = false := nan_wd (by omega)

theorem sum_core {sx sy : Bool} {m n p q : Nat} {vx vy : Int} (hx : vx = (if sx then -1 else 1) * ((m * 2 ^ p : Nat) : Int)) (hy : vy = (if sy then -1 else 1) * ((n * 2 ^ q : Nat) : Int)) :
    ((Ieee.Datum.number sx m (-1074 + (p : Int))).sum (.number sy n (-1074 + (q : Int)))).map Ieee.double.write = some (rndW (sx && sy) (vx + vy)) := by
  simp only [Ieee.Datum.sum, Option.map_some, signed_pow]
  obtain ⟨k, hk, kp, kq⟩ : ∃ k : Nat, min (-1074 + (p : Int)) (-1074 + (q : Int)) = -1074 + (k : Int) ∧ k ≤ p ∧ k ≤ q := by
    by_cases c : p ≤ q
    · exact ⟨p, by omega, by omega, c⟩
    · exact ⟨q, by omega, by omega, by omega⟩
  rw [hk]
  have e1 : (-1074 + (p : Int) - (-1074 + (k : Int))).toNat = p - k := by omega
  have e2 : (-1074 + (q : Int) - (-1074 + (k : Int))).toNat = q - k := by omega
  rw [e1, e2]
  have hp : m * 2 ^ p = m * 2 ^ (p - k) * 2 ^ k := by rw [Nat.mul_assoc, ← Nat.pow_add, Nat.sub_add_cancel kp]
  have hq : n * 2 ^ q = n * 2 ^ (q - k) * 2 ^ k := by rw [Nat.mul_assoc, ← Nat.pow_add, Nat.sub_add_cancel kq]
  have et : vx + vy = ((if sx then -1 else 1) * ((m * 2 ^ (p - k) : Nat) : Int) + (if sy then -1 else 1) * ((n * 2 ^ (q - k) : Nat) : Int)) * ((2 ^ k : Nat) : Int) := by
    rw [hx, hy, hp, hq, Int.add_mul, Int.natCast_mul _ (2 ^ k), Int.natCast_mul _ (2 ^ k)]
    simp only [Int.mul_assoc]
  generalize ((if sx then -1 else 1) * ((m * 2 ^ (p - k) : Nat) : Int) + (if sy then -1 else 1) * ((n * 2 ^ (q - k) : Nat) : Int)) = T at *
  have h2 : 0 < ((2 ^ k : Nat) : Int) := by have := Nat.two_pow_pos k; omega
  have z1 : T = 0 ↔ vx + vy = 0 := by
    rw [et]; constructor
    · rintro rfl; simp
    · intro h; rcases Int.mul_eq_zero.1 h with h | h
      · exact h
      · omega
  have z2 : T < 0 ↔ vx + vy < 0 := by
    rw [et]; constructor
    · intro h; exact Int.mul_neg_of_neg_of_pos h h2
    · intro h
      by_cases c : T < 0
      · exact c
      · have := Int.mul_nonneg (show 0 ≤ T by omega) (Int.le_of_lt h2); omega
  have ha : (vx + vy).natAbs = T.natAbs * 2 ^ k := by rw [et, Int.natAbs_mul, Int.natAbs_natCast]
  show some (Ieee.double.nearest _ _ _) = _
  rw [nearest_eq, word_wd, ← ha]
  unfold rndW
  congr 2
  by_cases c : T = 0
  · rw [if_pos c, if_pos (z1.1 c)]
  · rw [if_neg c, if_neg (fun h => c (z1.2 h))]
    by_cases d : T < 0
    · rw [decide_eq_true d, decide_eq_true (z2.1 d)]
    · rw [decide_eq_false d, decide_eq_false (fun h => d (z2.2 h))]

theorem read_fin {x : Nat} (hx : x < 18446744073709551616) (h : fin x = true) : ∃ m p : Nat, Ieee.double.read x = .number (sg x) m (-1074 + (p : Int)) ∧ vl x = (if sg x then -1 else 1) * ((m * 2 ^ p : Nat) : Int) ∧ m < 9007199254740992 ∧ (p = 0 ∨ 4503599627370496 ≤ m) ∧ mg (x % 9223372036854775808) = m * 2 ^ p := by
  obtain ⟨m, p, hr, hv, h3⟩ := read_num hx (of_decide_eq_true h)
  exact ⟨m, p, hr, by rw [vl_eq hx, hv]; rfl, h3.2, h3.1, hv⟩

theorem add_val {x y : Nat} (hx : x < 18446744073709551616) (hy : y < 18446744073709551616) (fx : fin x = true) (fy : fin y = true) :
    floatBits .add .f64 x y = some (rndW (sg x && sg y) (vl x + vl y)) := by
  obtain ⟨m, p, hr, hv, _⟩ := read_fin hx fx
  obtain ⟨n, q, hr2, hv2, _⟩ := read_fin hy fy
  show ((Ieee.double.read x).sum (Ieee.double.read y)).map Ieee.double.write = _
  rw [hr, hr2]
  exact sum_core hv hv2

theorem sub_val {x y : Nat} (hx : x < 18446744073709551616) (hy : y < 18446744073709551616) (fx : fin x = true) (fy : fin y = true) :
    floatBits .sub .f64 x y = some (rndW (sg x && !sg y) (vl x - vl y)) := by
  obtain ⟨m, p, hr, hv, _⟩ := read_fin hx fx
  obtain ⟨n, q, hr2, hv2, _⟩ := read_fin hy fy
  show ((Ieee.double.read x).sum (Ieee.double.read y).opposite).map Ieee.double.write = _
  rw [hr, hr2]
  refine (sum_core (vy := -vl y) hv ?_).trans (by rw [Int.sub_eq_add_neg])
  rw [hv2]; cases sg y <;> simp

theorem cut_exact (neg : Bool) (m d k : Nat) (h0 : m ≠ 0) (h : k ≤ d) : Ieee.Toward.even.cut neg (m * 2 ^ d) k = m * 2 ^ (d - k) := by
  have hl : (m * 2 ^ d).log2 = m.log2 + d := log2_mul m d h0
  unfold Ieee.Toward.cut
  simp only [Nat.shiftLeft_eq, Nat.one_mul]
  rw [hl, Nat.min_eq_left (by omega)]
  have f : m * 2 ^ d = m * 2 ^ (d - k) * 2 ^ k := by rw [Nat.mul_assoc, ← Nat.pow_add, Nat.sub_add_cancel h]
  have hk := Nat.two_pow_pos k
  rw [f, Nat.mul_div_cancel _ hk, Nat.mul_mod_left]
  have h1 : decide (2 ^ k < 2 * 0) = false := by simp
  have h2 : (2 ^ k == 2 * 0) = false := by rw [beq_eq_false_iff_ne]; omega
  rw [h1, h2]; rfl

/-- Zeros behind a number do not matter to 'nearest'. -/
theorem nearest_scale (neg : Bool) {m : Nat} (d p : Nat) (hm : m < 9007199254740992) (h0 : m ≠ 0) :
    Ieee.double.nearest neg (m * 2 ^ d) (-1074 + (p : Int) - (d : Int)) = Ieee.double.nearest neg m (-1074 + (p : Int)) := by
  have e2 : Ieee.double.binade = 4503599627370496 := by decide
  have e3 : Ieee.double.infRung = 9218868437227405312 := by decide
  have e4 : Ieee.double.leastPlace = -1074 := by decide
  have e5 : (Ieee.double.fractionBits : Int) = 52 := by decide
  have hd := Nat.two_pow_pos d
  have h1 : m * 2 ^ d ≠ 0 := by intro e; rcases Nat.mul_eq_zero.1 e with e | e <;> omega
  have hl : (m * 2 ^ d).log2 = m.log2 + d := log2_mul m d h0
  have hb : m.log2 ≤ 52 := by
    have := (Nat.log2_lt h0 (k := 53)).2 hm
    omega
  unfold Ieee.Format.nearest
  rw [if_neg h1, if_neg h0]
  simp only [e2, e3, e4, e5]
  rw [hl]
  have eL : max (-1074 + (p : Int) - (d : Int) + ((m.log2 + d : Nat) : Int) - 52) (-1074) = max (-1074 + (p : Int) + (m.log2 : Int) - 52) (-1074) := by omega
  rw [eL]
  obtain ⟨L, hL, hLp⟩ : ∃ L : Nat, max (-1074 + (p : Int) + (m.log2 : Int) - 52) (-1074) = -1074 + (L : Int) ∧ L ≤ p := by
    refine ⟨p + m.log2 - 52, ?_, ?_⟩ <;> omega
  rw [hL]
  have r1 : (-1074 + (p : Int) - (-1074 + (L : Int))).toNat = p - L := by omega
  have r2 : (-1074 + (L : Int) - (-1074 + (p : Int))).toNat = 0 := by omega
  rw [r1, r2, cut_zero]
  by_cases c : d + L ≤ p
  · have l1 : (-1074 + (p : Int) - (d : Int) - (-1074 + (L : Int))).toNat = p - L - d := by omega
    have l2 : (-1074 + (L : Int) - (-1074 + (p : Int) - (d : Int))).toNat = 0 := by omega
    rw [l1, l2, cut_zero, Nat.shiftLeft_eq, Nat.shiftLeft_eq, Nat.mul_assoc, ← Nat.pow_add, show d + (p - L - d) = p - L by omega]
  · have l1 : (-1074 + (p : Int) - (d : Int) - (-1074 + (L : Int))).toNat = 0 := by omega
    have l2 : (-1074 + (L : Int) - (-1074 + (p : Int) - (d : Int))).toNat = d - (p - L) := by omega
    rw [l1, l2, Nat.shiftLeft_zero, cut_exact neg m d _ h0 (by omega), Nat.shiftLeft_eq, show d - (d - (p - L)) = p - L by omega]

theorem read_two : Ieee.double.read 4611686018427387904 = .number false 4503599627370496 (-51) := by decide +kernel

theorem log2_le {m : Nat} (hm : m < 9007199254740992) : m.log2 ≤ 52 := by
  by_cases h0 : m = 0
  · subst h0; decide
  · have := (Nat.log2_lt h0 (k := 53)).2 hm
    omega

/-- 'x / 2' of a number that is not among the least. -/
theorem half_val {x m p : Nat} (hx : x < 18446744073709551616) (hr : Ieee.double.read x = .number (sg x) m (-1074 + (p : Int))) (hm : m < 9007199254740992) (hm2 : 4503599627370496 ≤ m) (hp : 1 ≤ p) :
    floatBits .quo .f64 x 4611686018427387904 = some (wd (sg x) ((p - 1) * 4503599627370496 + m)) ∨ 9218868437227405312 ≤ (p - 1) * 4503599627370496 + m := by
  by_cases hinf : 9218868437227405312 ≤ (p - 1) * 4503599627370496 + m
  · exact .inr hinf
  left
  show ((Ieee.double.read x).quotient 54 (Ieee.double.read 4611686018427387904)).map Ieee.double.write = _
  rw [hr, read_two]
  simp only [Ieee.Datum.quotient]
  rw [if_neg (by decide)]
  have hl := log2_le hm
  have e0 : (4503599627370496 : Nat).log2 = 52 := by decide +kernel
  rw [e0]
  obtain ⟨k, hk⟩ : ∃ k, 54 + 52 - m.log2 = 52 + k ∧ 2 ≤ k := ⟨54 - m.log2, by omega, by omega⟩
  obtain ⟨hk, hk2⟩ := hk
  rw [hk, Nat.shiftLeft_eq, Nat.pow_add, ← Nat.mul_assoc]
  have e1 : m * 2 ^ 52 * 2 ^ k = m * 2 ^ k * 4503599627370496 := by
    rw [show (2 : Nat) ^ 52 = 4503599627370496 by decide]; ac_rfl
  rw [e1, Nat.mul_div_cancel _ (by decide), Nat.mul_mod_left]
  have e2 : 2 * (m * 2 ^ k) + ((0 : Nat) != 0).toNat = m * 2 ^ (k + 1) := by
    rw [Nat.pow_succ]; simp; generalize 2 ^ k = z; ac_rfl
  rw [e2, Bool.xor_false]
  show some (Ieee.double.nearest _ _ _) = _
  have e3 : -1074 + (p : Int) - -51 - ((52 + k : Nat) : Int) - 1 = -1074 + ((p - 1 : Nat) : Int) - ((k + 1 : Nat) : Int) := by omega
  rw [e3, nearest_scale _ _ _ hm (by omega), nearest_eq, word_wd, ← mgk (k := p - 1) (q := m) (by omega) (.inr hm2), rr_mg, Nat.min_eq_left (by omega)]

theorem cut_le (neg : Bool) (n k : Nat) : Ieee.Toward.even.cut neg n k ≤ n / 2 ^ (min k (n.log2 + 2)) + 1 := by
  unfold Ieee.Toward.cut
  simp only [Nat.shiftLeft_eq, Nat.one_mul]
  refine Nat.add_le_add_left ?_ _
  cases (decide (2 ^ min k (n.log2 + 2) < 2 * (n % 2 ^ min k (n.log2 + 2))) || (2 ^ min k (n.log2 + 2) == 2 * (n % 2 ^ min k (n.log2 + 2)) && (n / 2 ^ min k (n.log2 + 2)) % 2 == 1)) <;> decide

/-- 'x / 2' of one of the least. -/
theorem half_low {x m : Nat} (hx : x < 18446744073709551616) (hr : Ieee.double.read x = .number (sg x) m (-1074 + ((0 : Nat) : Int))) (hm : m < 9007199254740992) :
    ∃ r, floatBits .quo .f64 x 4611686018427387904 = some (wd (sg x) r) ∧ r < 9218868437227405312 := by
  show ∃ r, ((Ieee.double.read x).quotient 54 (Ieee.double.read 4611686018427387904)).map Ieee.double.write = some (wd (sg x) r) ∧ _
  rw [hr, read_two]
  simp only [Ieee.Datum.quotient]
  rw [if_neg (by decide)]
  have hl := log2_le hm
  have e0 : (4503599627370496 : Nat).log2 = 52 := by decide +kernel
  rw [e0]
  by_cases h0 : m = 0
  · subst h0
    refine ⟨0, ?_, by decide⟩
    simp only [Nat.zero_shiftLeft, Nat.zero_div, Nat.zero_mod, Bool.xor_false, Option.map_some, Ieee.Format.write]
    show some (Ieee.double.nearest (sg x) (2 * 0 + ((0 : Nat) != 0).toNat) _) = _
    rw [show 2 * 0 + ((0 : Nat) != 0).toNat = 0 from rfl]
    unfold Ieee.Format.nearest
    rw [if_pos rfl, word_wd]
  obtain ⟨k, hk⟩ : ∃ k, 54 + 52 - m.log2 = 52 + k ∧ k = 54 - m.log2 := ⟨54 - m.log2, by omega, rfl⟩
  obtain ⟨hk, hk2⟩ := hk
  rw [hk, Nat.shiftLeft_eq, Nat.pow_add, ← Nat.mul_assoc]
  have e1 : m * 2 ^ 52 * 2 ^ k = m * 2 ^ k * 4503599627370496 := by
    rw [show (2 : Nat) ^ 52 = 4503599627370496 by decide]; ac_rfl
  rw [e1, Nat.mul_div_cancel _ (by decide), Nat.mul_mod_left]
  have e2 : 2 * (m * 2 ^ k) + ((0 : Nat) != 0).toNat = m * 2 ^ (k + 1) := by
    rw [Nat.pow_succ]; simp; generalize 2 ^ k = z; ac_rfl
  rw [e2, Bool.xor_false]
  have e3 : -1074 + ((0 : Nat) : Int) - -51 - ((52 + k : Nat) : Int) - 1 = -1074 - ((k + 2 : Nat) : Int) := by omega
  rw [e3]
  show ∃ r, some (Ieee.double.nearest _ _ _) = _ ∧ _
  have b2 : Ieee.double.binade = 4503599627370496 := by decide
  have b3 : Ieee.double.infRung = 9218868437227405312 := by decide
  have b4 : Ieee.double.leastPlace = -1074 := by decide
  have b5 : (Ieee.double.fractionBits : Int) = 52 := by decide
  have hk1 := Nat.two_pow_pos (k + 1)
  have h1 : m * 2 ^ (k + 1) ≠ 0 := by intro e; rcases Nat.mul_eq_zero.1 e with e | e <;> omega
  have hlg : (m * 2 ^ (k + 1)).log2 = m.log2 + (k + 1) := log2_mul m (k + 1) h0
  unfold Ieee.Format.nearest
  rw [if_neg h1]
  simp only [b2, b3, b4, b5, hlg]
  have eL : max (-1074 - ((k + 2 : Nat) : Int) + ((m.log2 + (k + 1) : Nat) : Int) - 52) (-1074) = -1074 := by omega
  rw [eL]
  have l0 : ((-1074 : Int) - -1074).toNat = 0 := by decide
  have l1 : (-1074 - ((k + 2 : Nat) : Int) - -1074).toNat = 0 := by omega
  have l2 : (-1074 - (-1074 - ((k + 2 : Nat) : Int))).toNat = k + 2 := by omega
  rw [l0, l1, l2, Nat.shiftLeft_zero, Nat.zero_mul, Nat.zero_add]
  have hc := cut_le (sg x) (m * 2 ^ (k + 1)) (k + 2)
  rw [hlg, Nat.min_eq_left (by omega)] at hc
  have hq : m * 2 ^ (k + 1) / 2 ^ (k + 2) = m / 2 := by
    rw [Nat.pow_succ 2 (k + 1), Nat.mul_comm (2 ^ (k + 1)) 2, Nat.mul_div_mul_right _ _ hk1]
  rw [hq] at hc
  refine ⟨_, by rw [word_wd], ?_⟩
  have : Ieee.Toward.even.cut (sg x) (m * 2 ^ (k + 1)) (k + 2) ≤ 4503599627370497 := by omega
  omega

theorem rr_lo {v r : Nat} (h : mg r ≤ v) : r ≤ rr v := by
  have h1 := dn_mono h
  rw [dn_mg] at h1
  rcases rr_or v with e | ⟨e, _⟩ <;> omega
theorem rr_hi {v r : Nat} (h : v ≤ mg r) : rr v ≤ r := by
  by_cases c : v = mg r
  · rw [c, rr_mg]; omega
  · have := @dn_lt v r (by omega)
    rcases rr_or v with e | ⟨e, _⟩ <;> omega

theorem vl_sg {x : Nat} (hx : x < 18446744073709551616) : vl x = if sg x then -(mg (x % 9223372036854775808) : Int) else (mg (x % 9223372036854775808) : Int) := by
  rw [vl_eq hx]; unfold sg; cases decide (9223372036854775808 ≤ x) <;> simp

theorem fin_wd {neg : Bool} {r : Nat} (h : r < 9218868437227405312) : fin (wd neg r) = true := by
  unfold fin; rw [wd_mod (by omega)]; simpa using h

/-- What is rounded stays between two doubles that the exact value is between. -/
theorem rnd_between {x y : Nat} {s : Int} (nz : Bool) (hx : x < 18446744073709551616) (hy : y < 18446744073709551616) (fx : fin x = true) (fy : fin y = true) (h1 : vl x ≤ s) (h2 : s ≤ vl y) :
    vl x ≤ vl (rndW nz s) ∧ vl (rndW nz s) ≤ vl y ∧ fin (rndW nz s) = true := by
  have gx : x % 9223372036854775808 < 9218868437227405312 := of_decide_eq_true fx
  have gy : y % 9223372036854775808 < 9218868437227405312 := of_decide_eq_true fy
  have vx := vl_sg hx
  have vy := vl_sg hy
  generalize x % 9223372036854775808 = rx at *
  generalize y % 9223372036854775808 = ry at *
  unfold rndW
  by_cases c0 : s = 0
  · subst c0
    have e : rr (0 : Int).natAbs = 0 := by decide
    have m0 := mg_zero
    rw [e, if_pos rfl, Nat.min_eq_left (by omega), vl_wd (by omega), m0]
    refine ⟨by simpa using h1, by simpa using h2, fin_wd (by omega)⟩
  rw [if_neg c0]
  by_cases c : s < 0
  · rw [decide_eq_true c]
    have k1 : s.natAbs ≤ mg rx := by
      cases h : sg x <;> rw [h] at vx <;> simp at vx <;> omega
    have k2 := rr_hi k1
    rw [Nat.min_eq_left (by omega), vl_wd (by omega)]
    have k3 := (@mg_le (rr s.natAbs) rx).2 k2
    refine ⟨?_, ?_, fin_wd (by omega)⟩
    · cases h : sg x <;> rw [h] at vx <;> simp at vx ⊢ <;> omega
    · cases h : sg y <;> rw [h] at vy <;> simp at vy ⊢
      · omega
      · have k4 := @rr_lo s.natAbs ry (by omega)
        have k5 := (@mg_le ry (rr s.natAbs)).2 k4
        omega
  · rw [decide_eq_false c]
    have k1 : s.natAbs ≤ mg ry := by
      cases h : sg y <;> rw [h] at vy <;> simp at vy <;> omega
    have k2 := rr_hi k1
    rw [Nat.min_eq_left (by omega), vl_wd (by omega)]
    have k3 := (@mg_le (rr s.natAbs) ry).2 k2
    refine ⟨?_, ?_, fin_wd (by omega)⟩
    · cases h : sg x <;> rw [h] at vx <;> simp at vx ⊢
      · have k4 := @rr_lo s.natAbs rx (by omega)
        have k5 := (@mg_le rx (rr s.natAbs)).2 k4
        omega
      · omega
    · cases h : sg y <;> rw [h] at vy <;> simp at vy ⊢ <;> omega

/-- The middle of two numbers that are not among the least lies between them. -/
theorem half_ok {x : Nat} (hx : x < 18446744073709551616) (f : fin x = true) :
    ∃ y, floatBits .quo .f64 x 4611686018427387904 = some y ∧ y < 18446744073709551616 ∧ fin y = true ∧ (9007199254740992 ≤ x % 9223372036854775808 → 2 * vl y = vl x) := by
  obtain ⟨m, p, hr, hv, hm, h3, hmg⟩ := read_fin hx f
  have gx : x % 9223372036854775808 < 9218868437227405312 := of_decide_eq_true f
  by_cases hp : p = 0
  · subst hp
    obtain ⟨r, e, hlt⟩ := half_low hx hr hm
    refine ⟨_, e, wd_lt (by omega), fin_wd hlt, fun hbig => ?_⟩
    exfalso
    have h1 : mg 9007199254740992 ≤ mg (x % 9223372036854775808) := mg_le.2 hbig
    have h2 : mg 9007199254740992 = 9007199254740992 := by decide +kernel
    omega
  · have hm2 : 4503599627370496 ≤ m := by omega
    have hk : mg ((p - 1) * 4503599627370496 + m) = m * 2 ^ (p - 1) := mgk (by omega) (.inr hm2)
    have h2 : 2 * (m * 2 ^ (p - 1)) = m * 2 ^ p := by
      rw [show p = (p - 1) + 1 by omega, Nat.pow_succ, Nat.add_sub_cancel]; generalize 2 ^ (p - 1) = z; ac_rfl
    have hlt : (p - 1) * 4503599627370496 + m < 9218868437227405312 := by
      have : (p - 1) * 4503599627370496 + m ≤ x % 9223372036854775808 := (@mg_le _ _).1 (by rw [hk, hmg]; omega)
      omega
    have e := (half_val hx hr hm hm2 (by omega)).resolve_right (by omega)
    refine ⟨_, e, wd_lt (by omega), fin_wd hlt, fun _ => ?_⟩
    rw [vl_wd (by omega), hk, hv]
    clear e hk hmg
    generalize m * 2 ^ (p - 1) = A at *
    generalize m * 2 ^ p = B at *
    subst h2
    cases sg x <;> simp <;> omega
end Fl
end Go.Proofs.YtmebmfgmopdieaaGreatDoor
