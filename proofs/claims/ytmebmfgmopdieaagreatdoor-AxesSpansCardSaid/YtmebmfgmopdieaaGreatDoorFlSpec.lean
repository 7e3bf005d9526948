/- What the functions of layer 2 compute, as plain functions on the words of doubles. No program in sight. -/
import Derived.Test.YtmebmfgmopdieaaGreatDoorFlInt
set_option linter.unusedSimpArgs false
set_option linter.unusedVariables false
namespace Go.Proofs.YtmebmfgmopdieaaGreatDoor
namespace Fl

def cmpI (a b : Int) : Int := if a < b then -1 else if b < a then 1 else 0

/-- The place in the total order. -/
def ky (x : Nat) : Nat := if nan x then 18446744073709551615 else if 9223372036854775808 ≤ x then 18446744073709551615 - x else x + 9223372036854775808
def atN (k : Nat) : Nat := if 9223372036854775808 ≤ k then k - 9223372036854775808 else 18446744073709551615 - k

def cls (x : Nat) : Int := if nan x then 6 else if x = 9218868437227405312 then 5 else if x = 18442240474082181120 then 0 else if x = 0 then 3 else if x = 9223372036854775808 then 2 else if 9223372036854775808 ≤ x then 1 else 4

/-- Next of the program: the word, and the error. -/
def nxt (x : Nat) : Nat × Int := if ky x < 18442240474082181120 then (atN (ky x + 1), 0) else (0, 16)
def prv (x : Nat) : Nat × Int := if ky x ≠ 18446744073709551615 ∧ 4503599627370495 < ky x then (atN (ky x - 1), 0) else (0, 16)
/-- Next of the reference: the word, and whether there is one. -/
def rnxt (x : Nat) : Nat × Bool := if cls x == 5 then (0, false) else if cls x == 6 then (0, false) else if cls x == 2 then (0, true) else if cls x == 0 then ((IntKind.u64.wrap ((x : Int) - 1)).toNat, true) else if cls x == 1 then ((IntKind.u64.wrap ((x : Int) - 1)).toNat, true) else ((IntKind.u64.wrap ((x : Int) + 1)).toNat, true)
def rprv (x : Nat) : Nat × Bool := if cls x == 0 then (0, false) else if cls x == 6 then (0, false) else if cls x == 3 then (9223372036854775808, true) else if cls x == 1 then ((IntKind.u64.wrap ((x : Int) + 1)).toNat, true) else if cls x == 2 then ((IntKind.u64.wrap ((x : Int) + 1)).toNat, true) else ((IntKind.u64.wrap ((x : Int) - 1)).toNat, true)

def fLt (a b : Nat) : Bool := FloatKind.f64.format.order a b == some .lt
def fEq (a b : Nat) : Bool := FloatKind.f64.format.order a b == some .eq
def fGt (a b : Nat) : Bool := FloatKind.f64.format.order a b == some .gt

theorem fmt_eq : FloatKind.f64.format = Ieee.double := rfl

theorem f_nan {a b : Nat} (ha : a < 18446744073709551616) (hb : b < 18446744073709551616) (h : nan a = true ∨ nan b = true) : FloatKind.f64.format.order a b = none := by
  rw [fmt_eq, order_eq ha hb, if_pos]
  rcases h with h | h <;> simp [h]

theorem f_num {a b : Nat} (ha : a < 18446744073709551616) (hb : b < 18446744073709551616) (h : nan a = false) (h2 : nan b = false) : FloatKind.f64.format.order a b = some (compare (vl a) (vl b)) := by
  rw [fmt_eq, order_eq ha hb, if_neg]
  simp [h, h2]

theorem ne_self {x : Nat} (hx : x < 18446744073709551616) : (FloatKind.f64.format.order x x != some Ordering.eq) = nan x := by
  cases h : nan x
  · rw [f_num hx hx h h]; simp
  · rw [f_nan hx hx (Or.inl h)]; rfl

theorem and_sign {x : Nat} (hx : x < 18446744073709551616) : (bits .and .u64 (x : Int) 9223372036854775808 != 0) = decide (9223372036854775808 ≤ x) := by
  have h := u64_and_nat x 9223372036854775808 hx (by omega)
  rw [show ((9223372036854775808 : Nat) : Int) = (9223372036854775808 : Int) from rfl] at h
  rw [h, show (9223372036854775808 : Nat) = 2 ^ 63 from by decide, nat_bit]
  by_cases c : 2 ^ 63 ≤ x
  · have : x / 2 ^ 63 % 2 = 1 := by omega
    rw [this]; simp [c]
  · have : x / 2 ^ 63 % 2 = 0 := by omega
    rw [this]; simp [c]

theorem not_word {x : Nat} (hx : x < 18446744073709551616) : bits .xor .u64 IntKind.u64.max (x : Int) = ((18446744073709551615 - x : Nat) : Int) := by
  rw [show IntKind.u64.max = (18446744073709551615 : Int) from by decide]
  show IntKind.u64.wrap ((BitVec.ofInt 64 18446744073709551615 ^^^ BitVec.ofInt 64 (x : Int)).toNat : Int) = _
  have h1 : BitVec.ofInt 64 18446744073709551615 = BitVec.allOnes 64 := by decide
  rw [h1, BitVec.allOnes_xor, BitVec.toNat_not, ofInt_u64 x hx, IntKind.wrap_u64]
  omega

theorem or_sign {x : Nat} (hx : x < 9223372036854775808) : bits .or .u64 (x : Int) 9223372036854775808 = ((x + 9223372036854775808 : Nat) : Int) := by
  have h := u64_or_nat x 9223372036854775808 (by omega) (by omega)
  rw [show ((9223372036854775808 : Nat) : Int) = (9223372036854775808 : Int) from rfl] at h
  rw [h, Nat.or_comm, nat_join 63 9223372036854775808 x (by decide) (by omega), Nat.add_comm]

theorem andNot_sign {x : Nat} (hx : x < 18446744073709551616) (h0 : 9223372036854775808 ≤ x) : bits .andNot .u64 (x : Int) 9223372036854775808 = ((x - 9223372036854775808 : Nat) : Int) := by
  have h := u64_andNot_nat x 9223372036854775808 hx (by omega)
  rw [show ((9223372036854775808 : Nat) : Int) = (9223372036854775808 : Int) from rfl] at h
  have e : 18446744073709551615 - 9223372036854775808 = 2 ^ 63 - 1 := by decide
  rw [h, e, Nat.and_two_pow_sub_one_eq_mod, show x % 2 ^ 63 = x - 9223372036854775808 from by omega]

theorem ky_lt {x : Nat} (hx : x < 18446744073709551616) : ky x < 18446744073709551616 := by
  unfold ky nan
  split
  · omega
  · rename_i h; simp at h; split <;> omega

theorem atN_lt {k : Nat} (hk : k < 18446744073709551616) : atN k < 18446744073709551616 := by
  unfold atN; split <;> omega

def negW (x : Nat) : Nat := x ^^^ 9223372036854775808

theorem negW_eq {x : Nat} (hx : x < 18446744073709551616) : negW x = if 9223372036854775808 ≤ x then x - 9223372036854775808 else 9223372036854775808 + x := by
  unfold negW
  have h1 : (x ^^^ 2 ^ 63) % 2 ^ 63 = x % 2 ^ 63 := by rw [Nat.xor_mod_two_pow, Nat.mod_self, Nat.xor_zero]
  have h2 : (x ^^^ 2 ^ 63) / 2 ^ 63 = (x / 2 ^ 63) ^^^ 1 := by rw [Nat.xor_div_two_pow, Nat.div_self (by decide)]
  have e : (2 : Nat) ^ 63 = 9223372036854775808 := by decide
  rw [e] at h1 h2
  by_cases c : 9223372036854775808 ≤ x
  · have : x / 9223372036854775808 = 1 := by omega
    rw [this, show (1 ^^^ 1 : Nat) = 0 from rfl] at h2
    rw [if_pos c]; omega
  · have : x / 9223372036854775808 = 0 := by omega
    rw [this, show (0 ^^^ 1 : Nat) = 1 from rfl] at h2
    rw [if_neg c]; omega

theorem negW_lt {x : Nat} (hx : x < 18446744073709551616) : negW x < 18446744073709551616 := by
  rw [negW_eq hx]; split <;> omega

theorem nan_negW {x : Nat} (hx : x < 18446744073709551616) : nan (negW x) = nan x := by
  rw [negW_eq hx]; unfold nan; rw [decide_eq_decide]; split <;> omega

theorem vl_negW {x : Nat} (hx : x < 18446744073709551616) : vl (negW x) = -vl x := by
  rw [vl_eq hx, vl_eq (negW_lt hx), negW_eq hx]
  by_cases c : 9223372036854775808 ≤ x
  · rw [if_pos c, decide_eq_true c, decide_eq_false (by omega), show (x - 9223372036854775808) % 9223372036854775808 = x % 9223372036854775808 by omega]
    simp
  · rw [if_neg c, decide_eq_false c, decide_eq_true (by omega), show (9223372036854775808 + x) % 9223372036854775808 = x % 9223372036854775808 by omega]
    simp

end Fl
end Go.Proofs.YtmebmfgmopdieaaGreatDoor
