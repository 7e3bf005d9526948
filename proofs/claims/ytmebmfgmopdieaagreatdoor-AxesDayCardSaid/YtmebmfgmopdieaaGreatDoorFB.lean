/- What the functions of layer 2 compute, as plain functions on the words of doubles. No program in sight. -/
import Derived.Test.YtmebmfgmopdieaaGreatDoorFA
import Derived.Deep.Draws
import Derived.Test.YtmebmfgmopdieaaGreatDoorRows
import Derived.WalkKit
import Derived.WalkSpells
import Derived.WalkLawsBesides
import Derived.Lib.Hide
/-! What the functions of layer 2 compute, as plain functions on the words of doubles. No program in sight. -/
set_option linter.unusedSimpArgs false
set_option linter.unusedVariables false
namespace Go.Proofs.YtmebmfgmopdieaaGreatDoor
namespace Fl

def cmpI (a b : Int) : Int := if a < b then -1 else if b < a then 1 else 0

/-- The place in the total order. -/
def ky (x : Nat) : Nat := if nan x then 18446744073709551615 else if 9223372036854775808 ≤ x then 18446744073709551615 - x else x + 9223372036854775808
def atN (k : Nat) : Nat := if 9223372036854775808 ≤ k then k - 9223372036854775808 else 18446744073709551615 - k

def cls (x : Nat) : Int := if nan x then 6 else if x = 9218868437227405312 then 5 else if x = 18442240474082181120 then 0 else if x = 0 then 3 else if x = 9223372036854775808 then 2 else if 9223372036854775808 ≤ x then 1 else 4

/-- Next of the program: the word, and the error. -/
def nxt (x : Nat) : Nat × Int := if ky x < 18442240474082181120 then (atN (ky x + 1), 0) else (0, 16)
def prv (x : Nat) : Nat × Int := if ky x ≠ 18446744073709551615 ∧ 4503599627370495 < ky x then (atN (ky x - 1), 0) else (0, 16)
/-- Next of the reference: the word, and whether there is one. -/
def rnxt (x : Nat) : Nat × Bool := if cls x == 5 then (0, false) else if cls x == 6 then (0, false) else if cls x == 2 then (0, true) else if cls x == 0 then ((IntKind.u64.wrap ((x : Int) - 1)).toNat, true) else if cls x == 1 then ((IntKind.u64.wrap ((x : Int) - 1)).toNat, true) else ((IntKind.u64.wrap ((x : Int) + 1)).toNat, true)
def rprv (x : Nat) : Nat × Bool := if cls x == 0 then (0, false) else if cls x == 6 then (0, false) else if cls x == 3 then (9223372036854775808, true) else if cls x == 1 then ((IntKind.u64.wrap ((x : Int) + 1)).toNat, true) else if cls x == 2 then ((IntKind.u64.wrap ((x : Int) + 1)).toNat, true) else ((IntKind.u64.wrap ((x : Int) - 1)).toNat, true)

def fLt (a b : Nat) : Bool := FloatKind.f64.format.order a b == some .lt
def fEq (a b : Nat) : Bool := FloatKind.f64.format.order a b == some .eq
def fGt (a b : Nat) : Bool := FloatKind.f64.format.order a b == some .gt

theorem fmt_eq : FloatKind.f64.format = Ieee.double := rfl

theorem f_nan {a b : Nat} (ha : a < 18446744073709551616) (hb : b < 18446744073709551616) (h : nan a = true ∨ nan b = true) : FloatKind.f64.format.order a b = none := by
  rw [fmt_eq, order_eq ha hb, if_pos]
  rcases h with h | h <;> simp [h]

theorem f_num {a b : Nat} (ha : a < 18446744073709551616) (hb : b < 18446744073709551616) (h : nan a = false) (h2 : nan b = false) : FloatKind.f64.format.order a b = some (compare (vl a) (vl b)) := by
  rw [fmt_eq, order_eq ha hb, if_neg]
  simp [h, h2]

theorem ne_self {x : Nat} (hx : x < 18446744073709551616) : (FloatKind.f64.format.order x x != some Ordering.eq) = nan x := by
  cases h : nan x
  · rw [f_num hx hx h h]; simp
  · rw [f_nan hx hx (Or.inl h)]; rfl

theorem and_sign {x : Nat} (hx : x < 18446744073709551616) : (bits .and .u64 (x : Int) 9223372036854775808 != 0) = decide (9223372036854775808 ≤ x) := by
  have h := u64_and_nat x 9223372036854775808 hx (by omega)
  rw [show ((9223372036854775808 : Nat) : Int) = (9223372036854775808 : Int) from rfl] at h
  rw [h, show (9223372036854775808 : Nat) = 2 ^ 63 from by decide, nat_bit]
  by_cases c : 2 ^ 63 ≤ x
  · have : x / 2 ^ 63 % 2 = 1 := by omega
    rw [this]; simp [c]
  · have : x / 2 ^ 63 % 2 = 0 := by omega
    rw [this]; simp [c]

theorem not_word {x : Nat} (hx : x < 18446744073709551616) : bits .xor .u64 IntKind.u64.max (x : Int) = ((18446744073709551615 - x : Nat) : Int) := by
  rw [show IntKind.u64.max = (18446744073709551615 : Int) from by decide]
  show IntKind.u64.wrap ((BitVec.ofInt 64 18446744073709551615 ^^^ BitVec.ofInt 64 (x : Int)).toNat : Int) = _
  have h1 : BitVec.ofInt 64 18446744073709551615 = BitVec.allOnes 64 := by decide
  rw [h1, BitVec.allOnes_xor, BitVec.toNat_not, ofInt_u64 x hx, IntKind.wrap_u64]
  omega

theorem or_sign {x : Nat} (hx : x < 9223372036854775808) : bits .or .u64 (x : Int) 9223372036854775808 = ((x + 9223372036854775808 : Nat) : Int) := by
  have h := u64_or_nat x 9223372036854775808 (by omega) (by omega)
  rw [show ((9223372036854775808 : Nat) : Int) = (9223372036854775808 : Int) from rfl] at h
  rw [h, Nat.or_comm, nat_join 63 9223372036854775808 x (by decide) (by omega), Nat.add_comm]

theorem andNot_sign {x : Nat} (hx : x < 18446744073709551616) (h0 : 9223372036854775808 ≤ x) : bits .andNot .u64 (x : Int) 9223372036854775808 = ((x - 9223372036854775808 : Nat) : Int) := by
  have h := u64_andNot_nat x 9223372036854775808 hx (by omega)
  rw [show ((9223372036854775808 : Nat) : Int) = (9223372036854775808 : Int) from rfl] at h
  have e : 18446744073709551615 - 9223372036854775808 = 2 ^ 63 - 1 := by decide
  rw [h, e, Nat.and_two_pow_sub_one_eq_mod, show x % 2 ^ 63 = x - 9223372036854775808 from by omega]

theorem ky_lt {x : Nat} (hx : x < 18446744073709551616) : ky x < 18446744073709551616 := by
  unfold ky nan
  split
  · omega
  · rename_i h; simp at h; split <;> omega

theorem atN_lt {k : Nat} (hk : k < 18446744073709551616) : atN k < 18446744073709551616 := by
  unfold atN; split <;> omega

def negW (x : Nat) : Nat := x ^^^ 9223372036854775808

theorem negW_eq {x : Nat} (hx : x < 18446744073709551616) : negW x = if 9223372036854775808 ≤ x then x - 9223372036854775808 else 9223372036854775808 + x := by
  unfold negW
  have h1 : (x ^^^ 2 ^ 63) % 2 ^ 63 = x % 2 ^ 63 := by rw [Nat.xor_mod_two_pow, Nat.mod_self, Nat.xor_zero]
  have h2 : (x ^^^ 2 ^ 63) / 2 ^ 63 = (x / 2 ^ 63) ^^^ 1 := by rw [Nat.xor_div_two_pow, Nat.div_self (by decide)]
  have e : (2 : Nat) ^ 63 = 9223372036854775808 := by decide
  rw [e] at h1 h2
  by_cases c : 9223372036854775808 ≤ x
  · have : x / 9223372036854775808 = 1 := by omega
    rw [this, show (1 ^^^ 1 : Nat) = 0 from rfl] at h2
    rw [if_pos c]; omega
  · have : x / 9223372036854775808 = 0 := by omega
    rw [this, show (0 ^^^ 1 : Nat) = 1 from rfl] at h2
    rw [if_neg c]; omega

theorem negW_lt {x : Nat} (hx : x < 18446744073709551616) : negW x < 18446744073709551616 := by
  rw [negW_eq hx]; split <;> omega

theorem nan_negW {x : Nat} (hx : x < 18446744073709551616) : nan (negW x) = nan x := by
  rw [negW_eq hx]; unfold nan; rw [decide_eq_decide]; split <;> omega

theorem vl_negW {x : Nat} (hx : x < 18446744073709551616) : vl (negW x) = -vl x := by
  rw [vl_eq hx, vl_eq (negW_lt hx), negW_eq hx]
  by_cases c : 9223372036854775808 ≤ x
  · rw [if_pos c, decide_eq_true c, decide_eq_false (by omega), show (x - 9223372036854775808) % 9223372036854775808 = x % 9223372036854775808 by omega]
    simp
  · rw [if_neg c, decide_eq_false c, decide_eq_true (by omega), show (9223372036854775808 + x) % 9223372036854775808 = x % 9223372036854775808 by omega]
    simp

end Fl
end Go.Proofs.YtmebmfgmopdieaaGreatDoor

/-! Floors, comparisons with whole numbers: plain facts on the words of doubles. No program in sight. -/
set_option linter.unusedSimpArgs false
set_option linter.unusedVariables false
namespace Go.Proofs.YtmebmfgmopdieaaGreatDoor
namespace Fl

/-- The word of a floor (up = false) or a ceiling (up = true). -/
def intW (up : Bool) (x : Nat) : Nat := if x % 9223372036854775808 = 9218868437227405312 then x else wd (decide (9223372036854775808 ≤ x)) (dn (cutv (decide (9223372036854775808 ≤ x) ^^ up) (mg (x % 9223372036854775808)) * U))

/-- The floor or the ceiling of what a word is worth. -/
def intV (up : Bool) (v : Int) : Int := if up then -((-v) / (U : Int)) else v / (U : Int)

theorem cutv_int (s up : Bool) (v : Nat) : (if s then -1 else 1) * (cutv (s ^^ up) v : Int) = intV up ((if s then -1 else 1) * (v : Int)) := by
  have hp := U_pos
  unfold cutv intV
  have h1 : ((v / U : Nat) : Int) = (v : Int) / (U : Int) := Int.natCast_ediv v U
  have h2 : ((v % U : Nat) : Int) = (v : Int) % (U : Int) := Int.natCast_emod v U
  have neg : (-(v : Int)) / (U : Int) = -((v / U + (v % U != 0).toNat : Nat) : Int) := by
    by_cases hz : v % U = 0
    · rw [hz]
      have := Nat.div_add_mod v U
      have e : (v : Int) = (U : Int) * ((v / U : Nat) : Int) := by rw [← Int.natCast_mul]; omega
      have e2 : -(v : Int) = (U : Int) * (-((v / U : Nat) : Int)) := by rw [Int.mul_neg, ← e]
      rw [e2, Int.mul_ediv_cancel_left _ (by omega)]
      simp
    · have hz' : (v % U != 0) = true := by simpa using hz
      rw [hz']
      have a := Nat.div_add_mod v U
      have b := Nat.mod_lt v hp
      have e : (v : Int) = (U : Int) * ((v / U : Nat) : Int) + ((v % U : Nat) : Int) := by rw [← Int.natCast_mul]; omega
      have e2 : -(v : Int) = ((U : Int) - ((v % U : Nat) : Int)) + (-((v / U : Nat) : Int) - 1) * (U : Int) := by
        rw [e, Int.sub_mul, Int.neg_mul, Int.mul_comm ((v / U : Nat) : Int)]; omega
      rw [e2, Int.add_mul_ediv_right _ _ (by omega), Int.ediv_eq_zero_of_lt (by omega) (by omega)]
      simp; omega
  cases s <;> cases up
  · simp
  · simp only [Bool.false_xor, Bool.true_and, if_true, Bool.false_eq_true, if_false, Int.one_mul]
    rw [neg]; omega
  · simp only [Bool.xor_false, Bool.true_and, if_true, Bool.false_eq_true, if_false]
    rw [Int.neg_mul, Int.one_mul, Int.neg_mul, Int.one_mul, neg]
  · simp only [Bool.xor_self, Bool.false_and, if_true, Bool.toNat_false, Nat.add_zero]
    rw [Int.neg_mul, Int.one_mul, Int.neg_mul, Int.one_mul, Int.neg_neg, h1]

theorem intW_spec (up : Bool) {x : Nat} (hx : x < 18446744073709551616) (hn : nan x = false) :
    intW up x < 18446744073709551616 ∧ nan (intW up x) = false ∧
      ((x % 9223372036854775808 = 9218868437227405312 ∧ intW up x = x) ∨ (x % 9223372036854775808 < 9218868437227405312 ∧ vl (intW up x) = intV up (vl x) * (U : Int))) := by
  have hn' : x % 9223372036854775808 ≤ 9218868437227405312 := by unfold nan at hn; simp at hn; exact hn
  unfold intW
  by_cases h : x % 9223372036854775808 = 9218868437227405312
  · rw [if_pos h]; exact ⟨hx, hn, Or.inl ⟨h, rfl⟩⟩
  · rw [if_neg h]
    have hlt : x % 9223372036854775808 < 9218868437227405312 := by omega
    obtain ⟨h1, h2⟩ := cutv_rep (decide (9223372036854775808 ≤ x) ^^ up) hlt
    refine ⟨wd_lt (by omega), nan_wd (by omega), Or.inr ⟨hlt, ?_⟩⟩
    rw [vl_wd (by omega), h1, vl_eq hx, Int.natCast_mul, ← Int.mul_assoc, cutv_int]

theorem vl_inf {x : Nat} (hx : x < 18446744073709551616) (h : x % 9223372036854775808 = 9218868437227405312) :
    (x = 9218868437227405312 ∧ vl x = (mg 9218868437227405312 : Int)) ∨ (x = 18442240474082181120 ∧ vl x = -(mg 9218868437227405312 : Int)) := by
  rw [vl_eq hx, h]
  by_cases c : 9223372036854775808 ≤ x
  · right; refine ⟨by omega, ?_⟩; rw [decide_eq_true c, if_pos rfl]; omega
  · left; refine ⟨by omega, ?_⟩; rw [decide_eq_false c, if_neg (by decide)]; omega

theorem vl_great : vl 4890909195324358656 = 9223372036854775808 * (U : Int) := by decide +kernel
theorem vl_ngreat : vl 14114281232179134464 = -9223372036854775808 * (U : Int) := by decide +kernel

theorem ge_iff {a b : Nat} (ha : a < 18446744073709551616) (hb : b < 18446744073709551616) (h : nan a = false) (h2 : nan b = false) :
    (FloatKind.f64.format.order a b == some Ordering.gt || FloatKind.f64.format.order a b == some Ordering.eq) = decide (vl b ≤ vl a) := by
  rw [f_num ha hb h h2]
  rcases Int.lt_trichotomy (vl a) (vl b) with c | c | c
  · rw [Int.compare_eq_lt.2 c, decide_eq_false (by omega)]; rfl
  · rw [c, decide_eq_true (by omega)]; simp
  · rw [Int.compare_eq_gt.2 c, decide_eq_true (by omega)]; rfl

theorem le_iff {a b : Nat} (ha : a < 18446744073709551616) (hb : b < 18446744073709551616) (h : nan a = false) (h2 : nan b = false) :
    (FloatKind.f64.format.order a b == some Ordering.lt || FloatKind.f64.format.order a b == some Ordering.eq) = decide (vl a ≤ vl b) := by
  rw [f_num ha hb h h2]
  rcases Int.lt_trichotomy (vl a) (vl b) with c | c | c
  · rw [Int.compare_eq_lt.2 c, decide_eq_true (by omega)]; rfl
  · rw [c, decide_eq_true (by omega)]; simp
  · rw [Int.compare_eq_gt.2 c, decide_eq_false (by omega)]; rfl

theorem lt_iff {a b : Nat} (ha : a < 18446744073709551616) (hb : b < 18446744073709551616) (h : nan a = false) (h2 : nan b = false) :
    (FloatKind.f64.format.order a b == some Ordering.lt) = decide (vl a < vl b) := by
  rw [f_num ha hb h h2]
  rcases Int.lt_trichotomy (vl a) (vl b) with c | c | c
  · rw [Int.compare_eq_lt.2 c, decide_eq_true (by omega)]; rfl
  · rw [c, decide_eq_false (by omega)]; simp
  · rw [Int.compare_eq_gt.2 c, decide_eq_false (by omega)]; rfl

theorem gt_iff {a b : Nat} (ha : a < 18446744073709551616) (hb : b < 18446744073709551616) (h : nan a = false) (h2 : nan b = false) :
    (FloatKind.f64.format.order a b == some Ordering.gt) = decide (vl b < vl a) := by
  rw [f_num ha hb h h2]
  rcases Int.lt_trichotomy (vl a) (vl b) with c | c | c
  · rw [Int.compare_eq_lt.2 c, decide_eq_false (by omega)]; rfl
  · rw [c, decide_eq_false (by omega)]; simp
  · rw [Int.compare_eq_gt.2 c, decide_eq_true (by omega)]; rfl

theorem eq_iff {a b : Nat} (ha : a < 18446744073709551616) (hb : b < 18446744073709551616) (h : nan a = false) (h2 : nan b = false) :
    (FloatKind.f64.format.order a b == some Ordering.eq) = decide (vl a = vl b) := by
  rw [f_num ha hb h h2]
  rcases Int.lt_trichotomy (vl a) (vl b) with c | c | c
  · rw [Int.compare_eq_lt.2 c, decide_eq_false (by omega)]; rfl
  · rw [c, decide_eq_true (by omega)]; simp
  · rw [Int.compare_eq_gt.2 c, decide_eq_false (by omega)]; rfl

/-- 'int64(y)' of a whole y that fits. -/
theorem toInt_vl {y : Nat} {n : Int} (hy : y < 18446744073709551616) (hn : nan y = false) (hv : vl y = n * (U : Int)) (h1 : -9223372036854775808 ≤ n) (h2 : n < 9223372036854775808) :
    floatToIntVal .f64 y .i64 = some n := by
  have hU : (0 : Int) < (U : Int) := by have := U_pos; omega
  have hr : y % 9223372036854775808 < 9218868437227405312 := by
    have hn' : y % 9223372036854775808 ≤ 9218868437227405312 := by unfold nan at hn; simp at hn; exact hn
    by_cases c : y % 9223372036854775808 = 9218868437227405312
    · exfalso
      have hb : (36893488147419103232 * (U : Int)) < (mg 9218868437227405312 : Int) := by have := big_lt; omega
      rcases vl_inf hy c with ⟨_, e⟩ | ⟨_, e⟩ <;> rw [e] at hv
      · have : n * (U : Int) < 36893488147419103232 * (U : Int) := Int.mul_lt_mul_of_pos_right (by omega) hU
        omega
      · have : -36893488147419103232 * (U : Int) < n * (U : Int) := Int.mul_lt_mul_of_pos_right (by omega) hU
        omega
    · omega
  have he := vl_eq hy
  rw [hv] at he
  have hw := wd_of hy
  by_cases c : 9223372036854775808 ≤ y
  · rw [decide_eq_true c] at he hw
    rw [if_pos rfl] at he
    have hneg : n ≤ 0 := by
      by_cases q : n ≤ 0
      · exact q
      · have : 0 < n * (U : Int) := Int.mul_pos (by omega) hU
        omega
    have hc : mg (y % 9223372036854775808) = n.natAbs * U := by
      have : (mg (y % 9223372036854775808) : Int) = ((n.natAbs * U : Nat) : Int) := by
        rw [Int.natCast_mul, show ((n.natAbs : Nat) : Int) = -n from by omega, Int.neg_mul]; omega
      omega
    rw [hw, toInt_eq hr hc (by simp; omega)]
    simp; omega
  · rw [decide_eq_false c] at he hw
    rw [if_neg (by decide)] at he
    have hneg : 0 ≤ n := by
      by_cases q : 0 ≤ n
      · exact q
      · have : n * (U : Int) < 0 := Int.mul_neg_of_neg_of_pos (by omega) hU
        omega
    have hc : mg (y % 9223372036854775808) = n.natAbs * U := by
      have : (mg (y % 9223372036854775808) : Int) = ((n.natAbs * U : Nat) : Int) := by
        rw [Int.natCast_mul, show ((n.natAbs : Nat) : Int) = n from by omega]; omega
      omega
    rw [hw, toInt_eq hr hc (by simp; omega)]
    simp; omega

end Fl
end Go.Proofs.YtmebmfgmopdieaaGreatDoor

/-! THE WALKS of layer 2's leaves: keys, comparisons of words, Next and Prev, in the program and in the reference. -/
set_option linter.unusedSimpArgs false
set_option linter.unusedVariables false
namespace Go.Proofs.YtmebmfgmopdieaaGreatDoor
open Go.RowKit
namespace Fl
theorem ri {k : IntKind} {a b : Int} (h : a = b) : Ending.returned (.int k a) = .returned (.int k b) := by rw [h]
theorem rf {k : FloatKind} {a b : Nat} (h : a = b) : Ending.returned (.float k a) = .returned (.float k b) := by rw [h]
theorem rb {a b : Bool} (h : a = b) : Ending.returned (.bool a) = .returned (.bool b) := by rw [h]
theorem cmpI_lt {a b : Int} (h : a < b) : -1 = cmpI a b := by unfold cmpI; rw [if_pos h]
theorem cmpI_gt {a b : Int} (h : b < a) : 1 = cmpI a b := by unfold cmpI; rw [if_neg (by omega), if_pos h]
theorem cmpI_eq {a b : Int} (h : a ≤ b) (h2 : b ≤ a) : 0 = cmpI a b := by unfold cmpI; rw [if_neg (by omega), if_neg (by omega)]
@[go_sem] theorem run_bits (x : Nat) (w : World) : (callFunc 51 #[.float .f64 x]).run Tryz.prog w = .ok (.value (.int .u64 x)) w := by kernel_rfl
@[go_sem] theorem run_from (x : Int) (w : World) : (callFunc 50 #[.int .u64 x]).run Tryz.prog w = .ok (.value (.float .f64 x.toNat)) w := by kernel_rfl

@[go_sem] theorem unary_negf (x : Nat) : Op.unary .neg (Value.float .f64 x) = pure (Value.float .f64 (negW x)) := by
  have h : ∀ y, y = x → Op.unary .neg (Value.float .f64 y) = pure (Value.float .f64 (negW x)) := by
    intro y hy; subst hy; rfl
  exact h x rfl

theorem cmpU (a b : Int) (w : World) :
    Calls Tryz.prog 80 #[.int .u64 a, .int .u64 b] w fun e w' => e = .returned (.int .i64 (cmpI a b)) ∧ w = w' := by
  go_enter Tryz.func80, Tryz.ntmps80
  go_wp2
  all_goals go_ret
  · exact ⟨ri (cmpI_lt (by assumption)), rfl⟩
  · exact ⟨ri (cmpI_gt (by assumption)), rfl⟩
  · exact ⟨ri (cmpI_eq (by assumption) (by assumption)), rfl⟩

theorem cmpN (a b : Int) (w : World) :
    Calls Tryz.prog 84 #[.int .i64 a, .int .i64 b] w fun e w' => e = .returned (.int .i64 (cmpI a b)) ∧ w = w' := by
  go_enter Tryz.func84, Tryz.ntmps84
  go_wp2
  all_goals go_ret
  · exact ⟨ri (cmpI_lt (by assumption)), rfl⟩
  · exact ⟨ri (cmpI_gt (by assumption)), rfl⟩
  · exact ⟨ri (cmpI_eq (by assumption) (by assumption)), rfl⟩

theorem key_any (x : Nat) (w : World) (hx : x < 18446744073709551616) :
    Calls Tryz.prog 81 #[.float .f64 x] w fun e w' => e = .returned (.int .u64 (ky x : Int)) ∧ w = w' := by
  have h1 := ne_self hx
  have h2 := and_sign hx
  cases hn : nan x
  · rw [hn] at h1
    by_cases h : 9223372036854775808 ≤ x
    · rw [decide_eq_true h] at h2
      have e : (ky x : Int) = bits .xor .u64 IntKind.u64.max (x : Int) := by
        rw [not_word hx]; unfold ky; rw [hn, if_neg (by decide), if_pos h]
      have E := Lib.hid e; clear e hn
      go_enter Tryz.func81, Tryz.ntmps81
      go_wp2
      go_ret
      first | exact ⟨ri E.out.symm, rfl⟩ | exact ⟨rf E.out.symm, rfl⟩
    · rw [decide_eq_false h] at h2
      have e : (ky x : Int) = bits .or .u64 (x : Int) 9223372036854775808 := by
        rw [or_sign (by omega)]; unfold ky; rw [hn, if_neg (by decide), if_neg h]
      have E := Lib.hid e; clear e hn
      go_enter Tryz.func81, Tryz.ntmps81
      go_wp2
      go_ret
      first | exact ⟨ri E.out.symm, rfl⟩ | exact ⟨rf E.out.symm, rfl⟩
  · rw [hn] at h1
    have e : (ky x : Int) = 18446744073709551615 := by unfold ky; rw [hn, if_pos rfl]; rfl
    have E := Lib.hid e; clear e hn h2
    go_enter Tryz.func81, Tryz.ntmps81
    go_wp2
    go_ret
    first | exact ⟨ri E.out.symm, rfl⟩ | exact ⟨rf E.out.symm, rfl⟩

theorem at_any (k : Int) (w : World) (h0 : 0 ≤ k) (hk : k < 18446744073709551616) :
    Calls Tryz.prog 85 #[.int .u64 k] w fun e w' => e = .returned (.float .f64 (atN k.toNat)) ∧ w = w' := by
  obtain ⟨n, rfl⟩ := Int.eq_ofNat_of_zero_le h0
  rw [Int.toNat_natCast]
  have hn : n < 18446744073709551616 := by omega
  have h2 := and_sign hn
  by_cases h : 9223372036854775808 ≤ n
  · rw [decide_eq_true h] at h2
    have e : atN n = (bits .andNot .u64 (n : Int) 9223372036854775808).toNat := by
      rw [andNot_sign hn h]; unfold atN; rw [if_pos h]; omega
    have E := Lib.hid e; clear e h0 hk h hn
    go_enter Tryz.func85, Tryz.ntmps85
    go_wp2
    go_ret
    first | exact ⟨ri E.out.symm, rfl⟩ | exact ⟨rf E.out.symm, rfl⟩
  · rw [decide_eq_false h] at h2
    have e : atN n = (bits .xor .u64 IntKind.u64.max (n : Int)).toNat := by
      rw [not_word hn]; unfold atN; rw [if_neg h]; omega
    have E := Lib.hid e; clear e h0 hk h hn
    go_enter Tryz.func85, Tryz.ntmps85
    go_wp2
    go_ret
    first | exact ⟨ri E.out.symm, rfl⟩ | exact ⟨rf E.out.symm, rfl⟩

theorem inf_pos (w : World) (n : Int) (h : 0 ≤ n) :
    Calls Tryz.prog 21 #[.int .i64 n] w fun e w' => e = .returned (.float .f64 9218868437227405312) ∧ w = w' := by
  go_enter Tryz.func21, Tryz.ntmps21
  go_wp2
  go_ret
  exact ⟨rfl, rfl⟩

theorem inf_neg (w : World) (n : Int) (h : n < 0) :
    Calls Tryz.prog 21 #[.int .i64 n] w fun e w' => e = .returned (.float .f64 18442240474082181120) ∧ w = w' := by
  go_enter Tryz.func21, Tryz.ntmps21
  go_wp2
  go_ret
  exact ⟨rfl, rfl⟩

theorem nan_any (w : World) :
    Calls Tryz.prog 35 #[] w fun e w' => e = .returned (.float .f64 9221120237041090561) ∧ w = w' := by
  go_enter Tryz.func35, Tryz.ntmps35
  go_wp2
  go_ret
  exact ⟨rfl, rfl⟩

theorem order_any (a b : Nat) (w : World) (ha : a < 18446744073709551616) (hb : b < 18446744073709551616) :
    Calls Tryz.prog 53 #[.float .f64 a, .float .f64 b] w fun e w' => e = .returned (.int .i64 (cmpI (ky a) (ky b))) ∧ w = w' := by
  go_enter Tryz.func53, Tryz.ntmps53
  go_wp2_with (first | (go_at_call 81; refine (key_any _ _ (by assumption)).mono ?_; rintro e w' ⟨rfl, rfl⟩) | (go_at_call 80; refine (cmpU _ _ _).mono ?_; rintro e w' ⟨rfl, rfl⟩))
  go_ret
  exact ⟨rfl, rfl⟩

end Fl
end Go.Proofs.YtmebmfgmopdieaaGreatDoor

/-! THE WALKS of layer 2: Next and Prev, classes, the small tests of the statements. -/
set_option linter.unusedSimpArgs false
set_option linter.unusedVariables false
namespace Go.Proofs.YtmebmfgmopdieaaGreatDoor
open Go.RowKit
namespace Fl
theorem ret2_fi {x y : Nat} {a b : Int} {k : IntKind} (h : x = y) (h2 : a = b) : Ending.returned (.tuple #[.float .f64 x, .int k a]) = .returned (.tuple #[.float .f64 y, .int k b]) := by rw [h, h2]
theorem ret2_fb {x y : Nat} {a b : Bool} (h : x = y) (h2 : a = b) : Ending.returned (.tuple #[.float .f64 x, .bool a]) = .returned (.tuple #[.float .f64 y, .bool b]) := by rw [h, h2]

theorem ky_inf : ky 9218868437227405312 = 18442240474082181120 := by decide
theorem ky_ninf : ky 18442240474082181120 = 4503599627370495 := by decide

theorem next_any (x : Nat) (w : World) (hx : x < 18446744073709551616) :
    Calls Tryz.prog 59 #[.float .f64 x] w fun e w' => e = .returned (.tuple #[.float .f64 (nxt x).1, .int .i64 (nxt x).2]) ∧ w = w' := by
  have hl := ky_lt hx
  by_cases h : ky x < 18442240474082181120
  · have h1 : (ky x : Int) < (ky 9218868437227405312 : Int) := by rw [ky_inf]; omega
    have h2 : IntKind.u64.wrap ((ky x : Int) + 1) = ((ky x + 1 : Nat) : Int) := by rw [IntKind.wrap_u64]; omega
    have e : nxt x = (atN (ky x + 1), 0) := by unfold nxt; rw [if_pos h]
    have g0 : 0 ≤ ((ky x + 1 : Nat) : Int) := by omega
    have g1 : ((ky x + 1 : Nat) : Int) < 18446744073709551616 := by omega
    have E := Lib.hid e; have G0 := Lib.hid g0; have G1 := Lib.hid g1; clear e hl h g0 g1
    go_enter Tryz.func59, Tryz.ntmps59
    go_wp2_with (first | (go_at_call 81; refine (key_any _ _ (by first | assumption | decide)).mono ?_; rintro e w' ⟨rfl, rfl⟩) | (go_at_call 21; refine (inf_pos _ _ (by decide)).mono ?_; rintro e w' ⟨rfl, rfl⟩) | (go_at_call 85; refine (at_any _ _ G0.out G1.out).mono ?_; rintro e w' ⟨rfl, rfl⟩))
    go_ret2
    exact ⟨ret2_fi (by rw [E.out]) (by rw [E.out]), rfl⟩
  · have h1 : ¬ (ky x : Int) < (ky 9218868437227405312 : Int) := by rw [ky_inf]; omega
    have e : nxt x = (0, 16) := by unfold nxt; rw [if_neg h]
    have E := Lib.hid e; clear e hl h
    go_enter Tryz.func59, Tryz.ntmps59
    go_wp2_with (first | (go_at_call 81; refine (key_any _ _ (by first | assumption | decide)).mono ?_; rintro e w' ⟨rfl, rfl⟩) | (go_at_call 21; refine (inf_pos _ _ (by decide)).mono ?_; rintro e w' ⟨rfl, rfl⟩))
    go_ret2
    exact ⟨ret2_fi (by rw [E.out]) (by rw [E.out]), rfl⟩

theorem prev_any (x : Nat) (w : World) (hx : x < 18446744073709551616) :
    Calls Tryz.prog 58 #[.float .f64 x] w fun e w' => e = .returned (.tuple #[.float .f64 (prv x).1, .int .i64 (prv x).2]) ∧ w = w' := by
  have hl := ky_lt hx
  by_cases h0 : ky x = 18446744073709551615
  · have h1 : ((ky x : Int) != 18446744073709551615) = false := by rw [h0]; decide
    have e : prv x = (0, 16) := by unfold prv; rw [if_neg (by omega)]
    have E := Lib.hid e; clear e hl h0
    go_enter Tryz.func58, Tryz.ntmps58
    go_wp2_with (first | (go_at_call 81; refine (key_any _ _ (by first | assumption | decide)).mono ?_; rintro e w' ⟨rfl, rfl⟩) | (go_at_call 21; refine (inf_neg _ _ (by decide)).mono ?_; rintro e w' ⟨rfl, rfl⟩))
    go_ret2
    exact ⟨ret2_fi (by rw [E.out]) (by rw [E.out]), rfl⟩
  · have h1 : ((ky x : Int) != 18446744073709551615) = true := by rw [bne_iff_ne]; omega
    by_cases h : 4503599627370495 < ky x
    · have h3 : (ky 18442240474082181120 : Int) < (ky x : Int) := by rw [ky_ninf]; omega
      have h2 : IntKind.u64.wrap ((ky x : Int) - 1) = ((ky x - 1 : Nat) : Int) := by rw [IntKind.wrap_u64]; omega
      have e : prv x = (atN (ky x - 1), 0) := by unfold prv; rw [if_pos ⟨h0, h⟩]
      have g0 : 0 ≤ ((ky x - 1 : Nat) : Int) := by omega
      have g1 : ((ky x - 1 : Nat) : Int) < 18446744073709551616 := by omega
      have E := Lib.hid e; have G0 := Lib.hid g0; have G1 := Lib.hid g1; clear e hl h g0 g1 h0
      go_enter Tryz.func58, Tryz.ntmps58
      go_wp2_with (first | (go_at_call 81; refine (key_any _ _ (by first | assumption | decide)).mono ?_; rintro e w' ⟨rfl, rfl⟩) | (go_at_call 21; refine (inf_neg _ _ (by decide)).mono ?_; rintro e w' ⟨rfl, rfl⟩) | (go_at_call 85; refine (at_any _ _ G0.out G1.out).mono ?_; rintro e w' ⟨rfl, rfl⟩))
      go_ret2
      exact ⟨ret2_fi (by rw [E.out]) (by rw [E.out]), rfl⟩
    · have h3 : ¬ (ky 18442240474082181120 : Int) < (ky x : Int) := by rw [ky_ninf]; omega
      have e : prv x = (0, 16) := by unfold prv; rw [if_neg (by omega)]
      have E := Lib.hid e; clear e hl h h0
      go_enter Tryz.func58, Tryz.ntmps58
      go_wp2_with (first | (go_at_call 81; refine (key_any _ _ (by first | assumption | decide)).mono ?_; rintro e w' ⟨rfl, rfl⟩) | (go_at_call 21; refine (inf_neg _ _ (by decide)).mono ?_; rintro e w' ⟨rfl, rfl⟩))
      go_ret2
      exact ⟨ret2_fi (by rw [E.out]) (by rw [E.out]), rfl⟩

theorem lt_zero {x : Nat} (hx : x < 18446744073709551616) (hn : nan x = false) (h0 : x ≠ 9223372036854775808) : (FloatKind.f64.format.order x 0 == some Ordering.lt) = decide (9223372036854775808 ≤ x) := by
  rw [f_num hx (by omega) hn (by decide)]
  have e0 : vl 0 = 0 := by decide
  rw [e0]
  have e := vl_eq hx
  by_cases h : 9223372036854775808 ≤ x
  · have hm := mg_mono (show 0 < x % 9223372036854775808 from by omega)
    rw [mg_zero] at hm
    rw [decide_eq_true h] at e ⊢
    rw [if_pos rfl] at e
    have : compare (vl x) 0 = .lt := by rw [Int.compare_eq_lt]; omega
    rw [this]; rfl
  · rw [decide_eq_false h] at e ⊢
    rw [if_neg (by decide)] at e
    have : compare (vl x) 0 ≠ .lt := by rw [Ne, Int.compare_eq_lt]; omega
    simpa using this

end Fl
end Go.Proofs.YtmebmfgmopdieaaGreatDoor

/-! THE WALKS of layer 2's program: against, near, Down, Up, Exact, Floor, Ceil, Cmp. -/
set_option linter.unusedSimpArgs false
set_option linter.unusedVariables false
set_option maxRecDepth 100000
namespace Go.Proofs.YtmebmfgmopdieaaGreatDoor
open Go.RowKit
namespace Fl

theorem integral_cases (name : String) (way : Ieee.Toward) : ∃ q : Question, (∀ x : Nat, Extern.MathFloor.toIntegral name way #[Value.float .f64 x] =
    (match Ieee.double.read x with
    | .nan s t =>
      if FloatKind.f64.format.quiet t = t then pure (Value.float .f64 x) else do
      let kept ← choose q
      pure (Value.float .f64 (if kept == 1 then x else FloatKind.f64.encode (.nan s (FloatKind.f64.format.quiet t))))
    | d => pure (Value.float .f64 (Ieee.double.write (d.integral way))))) ∧ q.forced = false := ⟨_, fun x => rfl, rfl⟩

theorem integral_pure (name : String) (way : Ieee.Toward) (up : Bool) {x : Nat} (hx : x < 18446744073709551616) (hn : nan x = false) (hway : way = if up then .up else .down) :
    Extern.MathFloor.toIntegral name way #[Value.float .f64 x] = pure (Value.float .f64 (intW up x)) := by
  have hn' : x % 9223372036854775808 ≤ 9218868437227405312 := by unfold nan at hn; simp at hn; exact hn
  obtain ⟨q, hq, _⟩ := integral_cases name way
  rw [hq]
  unfold intW
  by_cases h : x % 9223372036854775808 = 9218868437227405312
  · rw [if_pos h, read_inf hx h]
    show pure (Value.float .f64 (Ieee.double.word _ _)) = _
    rw [word_wd]
    have e3 : Ieee.double.infRung = 9218868437227405312 := by decide
    rw [e3, ← h, ← wd_of hx]
  · rw [if_neg h]
    have hi := integral_eq way (decide (9223372036854775808 ≤ x) ^^ up) hx (by omega) (by cases up <;> simp at hway ⊢ <;> simp [hway])
    obtain ⟨m, p, hread, _⟩ := read_num hx (show x % 9223372036854775808 < 9218868437227405312 by omega)
    rw [← hi, hread]

theorem run_floor (x : Nat) (w : World) (hx : x < 18446744073709551616) (hn : nan x = false) : (callFunc 61 #[.float .f64 x]).run Tryz.prog w = .ok (.value (.float .f64 (intW false x))) w := by
  have e : (callFunc 61 #[.float .f64 x]).run Tryz.prog w = (Extern.MathFloor.toIntegral "math.archFloor" .down #[.float .f64 x] >>= fun v => pure (.value v)).run Tryz.prog w := by kernel_rfl
  rw [e, integral_pure _ .down false hx hn rfl]
  rfl
theorem run_nan (way : Ieee.Toward) (name : String) (x : Nat) (w : World) (P : Program) (hx : x < 18446744073709551616) (hn : nan x = true) :
    ∃ y n, y < 18446744073709551616 ∧ nan y = true ∧ (Extern.MathFloor.toIntegral name way #[Value.float .f64 x] >>= fun v => pure (Next.value v)).run P w = .ok (.value (.float .f64 y)) (w.drewN n) := by
  obtain ⟨s, t, hread⟩ := read_nan (b := x) (by unfold nan at hn; simpa using hn)
  obtain ⟨q, hq, hf⟩ := integral_cases name way
  rw [hq, hread]
  have hnan : ∀ s t, nan (FloatKind.f64.encode (.nan s (FloatKind.f64.format.quiet t))) = true ∧ FloatKind.f64.encode (.nan s (FloatKind.f64.format.quiet t)) < 18446744073709551616 := by
    intro s t
    refine ⟨?_, ?_⟩
    · show nan (Ieee.double.word s (Ieee.double.infRung + Ieee.double.quiet t % Ieee.double.binade)) = true
      have e2 : Ieee.double.binade = 4503599627370496 := by decide
      have e3 : Ieee.double.infRung = 9218868437227405312 := by decide
      have e5 : Ieee.double.fractionBits = 52 := by decide
      rw [word_wd, e2, e3]
      unfold Ieee.Format.quiet
      rw [e5]
      have hbit : ((t ||| 2 ^ (52 - 1)) % 4503599627370496) ≠ 0 := by
        intro hz
        have h2 : ((t ||| 2 ^ 51) % 2 ^ 52).testBit 51 = true := by
          rw [Nat.testBit_mod_two_pow, Nat.testBit_or, Nat.testBit_two_pow_self, Bool.or_true, Bool.and_true]; decide
        rw [show (2 : Nat) ^ 52 = 4503599627370496 from by decide, show (51 : Nat) = 52 - 1 from rfl, hz] at h2
        exact absurd h2 (by decide)
      have hlt : (t ||| 2 ^ (52 - 1)) % 4503599627370496 < 4503599627370496 := Nat.mod_lt _ (by omega)
      unfold nan wd
      simp only [decide_eq_true_eq]
      split <;> omega
    · have := FloatKind.f64.format.write_lt (.nan s (FloatKind.f64.format.quiet t))
      exact this
  by_cases c : FloatKind.f64.format.quiet t = t
  · refine ⟨x, 0, hx, hn, ?_⟩
    simp only [c, if_true]
    rfl
  · by_cases k : q.cut (w.tape w.drawn q) = 1
    · refine ⟨x, 1, hx, hn, ?_⟩
      simp only [c, if_false]
      simp [choose, Sem.run, hf, k, World.drewN]
    · refine ⟨_, 1, (hnan s t).2, (hnan s t).1, ?_⟩
      simp only [c, if_false]
      simp [choose, Sem.run, hf, k, World.drewN]

theorem run_floor_nan (x : Nat) (w : World) (hx : x < 18446744073709551616) (hn : nan x = true) :
    ∃ y n, y < 18446744073709551616 ∧ nan y = true ∧ (callFunc 61 #[.float .f64 x]).run Tryz.prog w = .ok (.value (.float .f64 y)) (w.drewN n) := by
  have e : (callFunc 61 #[.float .f64 x]).run Tryz.prog w = (Extern.MathFloor.toIntegral "math.archFloor" .down #[.float .f64 x] >>= fun v => pure (.value v)).run Tryz.prog w := by kernel_rfl
  rw [e]
  exact run_nan _ _ x w _ hx hn
theorem mfloor_num (x : Nat) (w : World) (hx : x < 18446744073709551616) (hn : nan x = false) :
    Calls Tryz.prog 39 #[.float .f64 x] w fun e w' => e = .returned (.float .f64 (intW false x)) ∧ w = w' := by
  have h := run_floor x w hx hn
  go_enter Tryz.func39, Tryz.ntmps39
  go_wp2
  go_ret
  exact ⟨rfl, rfl⟩
def NanAlike (w : World) (e : Ending) (w' : World) : Prop := ∃ y n, y < 18446744073709551616 ∧ nan y = true ∧ e = .returned (.float .f64 y) ∧ w' = w.drewN n
theorem mfloor_nan (x : Nat) (w : World) (hx : x < 18446744073709551616) (hn : nan x = true) :
    Calls Tryz.prog 39 #[.float .f64 x] w (NanAlike w) := by
  obtain ⟨y, n, h1, h2, h⟩ := run_floor_nan x w hx hn
  have H1 := Lib.hid h1; have H2 := Lib.hid h2; clear h1 h2 hn
  go_enter Tryz.func39, Tryz.ntmps39
  go_wp2
  go_ret
  exact ⟨y, n, H1.out, H2.out, rfl, rfl⟩
end Fl
end Go.Proofs.YtmebmfgmopdieaaGreatDoor

/-! THE WALKS of layer 2's program: against, near, Down, Up, Exact, Floor, Ceil, Cmp. -/
set_option linter.unusedSimpArgs false
set_option linter.unusedVariables false
set_option maxRecDepth 100000
namespace Go.Proofs.YtmebmfgmopdieaaGreatDoor
open Go.RowKit
namespace Fl

theorem U_posI : (0 : Int) < (U : Int) := by have := U_pos; omega

theorem conv_fi (y : Nat) (n : Int) (h : floatToIntVal .f64 y .i64 = some n) (w : World) :
    (Go.convert 27 2 (Value.float .f64 y)).run Tryz.prog w = .ok (.int .i64 n) w :=
  run_convert_float_int (P := Tryz.prog) w 27 2 .f64 .i64 y n (by kernel_rfl) Tryz.underlying2 h

theorem against_any (x : Nat) (n : Int) (w : World) (hx : x < 18446744073709551616) (hn : nan x = false) (l0 : -9223372036854775808 ≤ n) (l1 : n < 9223372036854775808) :
    Calls Tryz.prog 56 #[.float .f64 x, .int .i64 n] w fun e w' => e = .returned (.int .i64 (cmpI (vl x) (n * (U : Int)))) ∧ w = w' := by
  have hU := U_posI
  have hg := ge_iff hx (show 4890909195324358656 < 18446744073709551616 by decide) hn (by decide)
  have hl := lt_iff hx (show 14114281232179134464 < 18446744073709551616 by decide) hn (by decide)
  rw [vl_great] at hg
  rw [vl_ngreat] at hl
  by_cases c1 : 9223372036854775808 * (U : Int) ≤ vl x
  · rw [decide_eq_true c1] at hg
    have e : 1 = cmpI (vl x) (n * (U : Int)) := cmpI_gt (Int.lt_of_lt_of_le (Int.mul_lt_mul_of_pos_right l1 hU) c1)
    have E := Lib.hid e; clear e hl c1 hn l0 l1 hU
    go_enter Tryz.func56, Tryz.ntmps56
    go_wp2
    go_ret
    exact ⟨ri E.out, rfl⟩
  rw [decide_eq_false c1] at hg
  by_cases c2 : vl x < -9223372036854775808 * (U : Int)
  · rw [decide_eq_true c2] at hl
    have e : -1 = cmpI (vl x) (n * (U : Int)) := cmpI_lt (Int.lt_of_lt_of_le c2 (Int.mul_le_mul_of_nonneg_right l0 (by omega)))
    have E := Lib.hid e; clear e c1 c2 hn l0 l1 hU
    go_enter Tryz.func56, Tryz.ntmps56
    go_wp2
    go_ret
    exact ⟨ri E.out, rfl⟩
  rw [decide_eq_false c2] at hl
  obtain ⟨y1, y2, y3⟩ := intW_spec false hx hn
  have hfin : vl (intW false x) = intV false (vl x) * (U : Int) := by
    rcases y3 with ⟨h, _⟩ | ⟨_, h⟩
    · exfalso
      have hb : (36893488147419103232 * (U : Int)) < (mg 9218868437227405312 : Int) := by have := big_lt; omega
      rcases vl_inf hx h with ⟨_, e⟩ | ⟨_, e⟩ <;> rw [e] at c1 c2 <;> omega
    · exact h
  have e0 : intV false (vl x) = vl x / (U : Int) := rfl
  rw [e0] at hfin
  have f0 : vl x / (U : Int) * (U : Int) ≤ vl x := Int.ediv_mul_le _ (by omega)
  have f1 : vl x < (vl x / (U : Int) + 1) * (U : Int) := Int.lt_ediv_add_one_mul_self _ hU
  have g0 : -9223372036854775808 ≤ vl x / (U : Int) := Int.le_ediv_of_mul_le hU (by omega)
  have g1 : vl x / (U : Int) < 9223372036854775808 := Int.ediv_lt_of_lt_mul hU (by omega)
  have hconv := conv_fi (intW false x) (vl x / (U : Int)) (toInt_vl y1 y2 hfin g0 g1) w
  have hfl := fun w => mfloor_num x w hx hn
  have heq := eq_iff y1 hx y2 hn
  rw [hfin] at heq
  generalize intW false x = y at *
  generalize vl x / (U : Int) = f at *
  rcases Int.lt_trichotomy f n with c | c | c
  · have e : -1 = cmpI (vl x) (n * (U : Int)) := cmpI_lt (Int.lt_of_lt_of_le f1 (Int.mul_le_mul_of_nonneg_right (by omega) (by omega)))
    have hc : cmpI f n = -1 := (cmpI_lt c).symm
    have E := Lib.hid e; have HF := Lib.hid hfl; clear e hfl c1 c2 hn l0 l1 hU hfin f0 f1 g0 g1 y1 y2 y3 e0 heq c
    go_enter Tryz.func56, Tryz.ntmps56
    go_wp2_with (first | (go_at_call 39; refine (HF.out _).mono ?_; rintro e w' ⟨rfl, rfl⟩) | (go_at_call 84; refine (cmpN _ _ _).mono ?_; rintro e w' ⟨rfl, rfl⟩))
    go_ret
    exact ⟨ri E.out, rfl⟩
  · subst c
    have hc : cmpI f f = 0 := (cmpI_eq (by omega) (by omega)).symm
    by_cases c3 : f * (U : Int) = vl x
    · rw [decide_eq_true c3] at heq
      have e : 0 = cmpI (vl x) (f * (U : Int)) := cmpI_eq (by omega) (by omega)
      have E := Lib.hid e; have HF := Lib.hid hfl; clear e hfl c1 c2 hn l0 l1 hU hfin f0 f1 g0 g1 y1 y2 y3 e0 c3
      go_enter Tryz.func56, Tryz.ntmps56
      go_wp2_with (first | (go_at_call 39; refine (HF.out _).mono ?_; rintro e w' ⟨rfl, rfl⟩) | (go_at_call 84; refine (cmpN _ _ _).mono ?_; rintro e w' ⟨rfl, rfl⟩))
      go_ret
      exact ⟨ri E.out, rfl⟩
    · rw [decide_eq_false c3] at heq
      have e : 1 = cmpI (vl x) (f * (U : Int)) := cmpI_gt (by omega)
      have E := Lib.hid e; have HF := Lib.hid hfl; clear e hfl c1 c2 hn l0 l1 hU hfin f0 f1 g0 g1 y1 y2 y3 e0 c3
      go_enter Tryz.func56, Tryz.ntmps56
      go_wp2_with (first | (go_at_call 39; refine (HF.out _).mono ?_; rintro e w' ⟨rfl, rfl⟩) | (go_at_call 84; refine (cmpN _ _ _).mono ?_; rintro e w' ⟨rfl, rfl⟩))
      go_ret
      exact ⟨ri E.out, rfl⟩
  · have e : 1 = cmpI (vl x) (n * (U : Int)) := cmpI_gt (Int.lt_of_lt_of_le (Int.mul_lt_mul_of_pos_right c hU) f0)
    have hc : cmpI f n = 1 := (cmpI_gt c).symm
    have E := Lib.hid e; have HF := Lib.hid hfl; clear e hfl c1 c2 hn l0 l1 hU hfin f0 f1 g0 g1 y1 y2 y3 e0 heq c
    go_enter Tryz.func56, Tryz.ntmps56
    go_wp2_with (first | (go_at_call 39; refine (HF.out _).mono ?_; rintro e w' ⟨rfl, rfl⟩) | (go_at_call 84; refine (cmpN _ _ _).mono ?_; rintro e w' ⟨rfl, rfl⟩))
    go_ret
    exact ⟨ri E.out, rfl⟩

end Fl
end Go.Proofs.YtmebmfgmopdieaaGreatDoor

/-! Down and Up: plain facts, and the walks of the program's. -/
set_option linter.unusedSimpArgs false
set_option linter.unusedVariables false
set_option maxRecDepth 100000
namespace Go.Proofs.YtmebmfgmopdieaaGreatDoor
open Go.RowKit
namespace Fl

def upr (v : Nat) : Nat := if mg (dn v) = v then dn v else dn v + 1
def downW (n : Int) : Nat := if n < 0 then wd true (upr (n.natAbs * U)) else dn (n.natAbs * U)
def upW (n : Int) : Nat := if n < 0 then wd true (dn (n.natAbs * U)) else upr (n.natAbs * U)

theorem nan_false {r : Nat} (h : r ≤ 9218868437227405312) : nan r = false := by unfold nan; simp; omega
theorem prv_pos {r : Nat} (h0 : 0 < r) (h : r ≤ 9218868437227405312) : prv r = (r - 1, 0) := by
  have hk : ky r = r + 9223372036854775808 := by unfold ky; rw [nan_false h, if_neg (by decide), if_neg (by omega)]
  unfold prv; rw [hk, if_pos (by omega)]
  unfold atN; rw [if_pos (by omega), show r + 9223372036854775808 - 1 - 9223372036854775808 = r - 1 from by omega]
theorem nxt_pos {r : Nat} (h : r < 9218868437227405312) : nxt r = (r + 1, 0) := by
  have hk : ky r = r + 9223372036854775808 := by unfold ky; rw [nan_false (by omega), if_neg (by decide), if_neg (by omega)]
  unfold nxt; rw [hk, if_pos (by omega)]
  unfold atN; rw [if_pos (by omega), show r + 9223372036854775808 + 1 - 9223372036854775808 = r + 1 from by omega]
theorem ky_neg {r : Nat} (h : r ≤ 9218868437227405312) : ky (wd true r) = 9223372036854775807 - r := by
  unfold ky; rw [nan_wd h, if_neg (by decide)]
  unfold wd; rw [if_pos rfl, if_pos (by omega)]; omega
theorem prv_neg {r : Nat} (h : r < 9218868437227405312) : prv (wd true r) = (wd true (r + 1), 0) := by
  unfold prv; rw [ky_neg (by omega), if_pos (by omega)]
  unfold atN wd; rw [if_neg (by omega), if_pos rfl, show 18446744073709551615 - (9223372036854775807 - r - 1) = 9223372036854775808 + (r + 1) from by omega]
theorem nxt_neg {r : Nat} (h0 : 0 < r) (h : r ≤ 9218868437227405312) : nxt (wd true r) = (wd true (r - 1), 0) := by
  unfold nxt; rw [ky_neg (by omega), if_pos (by omega)]
  unfold atN wd; rw [if_neg (by omega), if_pos rfl, show 18446744073709551615 - (9223372036854775807 - r + 1) = 9223372036854775808 + (r - 1) from by omega]

/-- The nearest double of n, and how it stands to n. -/
theorem near_facts {n : Int} (l0 : -9223372036854775808 ≤ n) (l1 : n < 9223372036854775808) :
    floatOfInt .f64 n = wd (decide (n < 0)) (rr (n.natAbs * U)) ∧ rr (n.natAbs * U) < 9218868437227405312 ∧
    floatOfInt .f64 n < 18446744073709551616 ∧ nan (floatOfInt .f64 n) = false ∧
    (if cmpI (vl (floatOfInt .f64 n)) (n * (U : Int)) = 1 then prv (floatOfInt .f64 n) = (downW n, 0) else floatOfInt .f64 n = downW n) ∧
    (if cmpI (vl (floatOfInt .f64 n)) (n * (U : Int)) = -1 then nxt (floatOfInt .f64 n) = (upW n, 0) else floatOfInt .f64 n = upW n) ∧
    (cmpI (vl (floatOfInt .f64 n)) (n * (U : Int)) = 0 ↔ downW n = upW n) := by
  have e := floatOfInt_eq (n := n) (by omega)
  have hv : n.natAbs * U < mg 9218868437227405312 := int_lt_inf (by omega)
  have hd := dn_lt hv
  have hd2 : dn (n.natAbs * U) + 1 < 9218868437227405312 := by
    have h1 : 36893488147419103232 * U < mg 9218868437227405311 := by decide +kernel
    have h2 : n.natAbs * U ≤ 9223372036854775808 * U := Nat.mul_le_mul_right _ (by omega)
    have := @dn_lt (n.natAbs * U) 9218868437227405311 (by omega)
    omega
  have h1 := dn_le (n.natAbs * U)
  have h2 := lt_dn (n.natAbs * U)
  have h3 := rr_or (n.natAbs * U)
  have hn : n * (U : Int) = (if decide (n < 0) then -1 else 1) * ((n.natAbs * U : Nat) : Int) := by
    rw [Int.natCast_mul, ← Int.mul_assoc]
    congr 1
    by_cases c : n < 0
    · rw [decide_eq_true c, if_pos rfl]; omega
    · rw [decide_eq_false c, if_neg (by decide)]; omega
  have hrl : rr (n.natAbs * U) < 9218868437227405312 := by omega
  have hvl := @vl_wd (decide (n < 0)) (rr (n.natAbs * U)) (by omega)
  rw [e]
  refine ⟨rfl, hrl, wd_lt (by omega), nan_wd (by omega), ?_⟩
  rw [hvl, hn]
  unfold downW upW
  generalize n.natAbs * U = v at *
  unfold upr
  have m1 : mg (dn v) = v ∨ mg (dn v) ≠ v := by omega
  by_cases c : n < 0
  · rw [decide_eq_true c]
    simp only [if_true, c]
    rcases h3 with h3 | ⟨h3, h4⟩
    · rw [h3]
      rcases m1 with m1 | m1
      · have hc : cmpI (-1 * (mg (dn v) : Int)) (-1 * (v : Int)) = 0 := (cmpI_eq (by omega) (by omega)).symm
        rw [hc, if_pos m1]; simp
      · have hc : cmpI (-1 * (mg (dn v) : Int)) (-1 * (v : Int)) = 1 := (cmpI_gt (by omega)).symm
        rw [hc, if_neg m1]
        refine ⟨by rw [if_pos rfl, prv_neg hd], by rw [if_neg (by decide)], ⟨fun h => by omega, fun h => ?_⟩⟩
        unfold wd at h; simp at h
    · rw [h3]
      have hc : cmpI (-1 * (mg (dn v + 1) : Int)) (-1 * (v : Int)) = -1 := (cmpI_lt (by omega)).symm
      rw [hc, if_neg h4]
      refine ⟨by rw [if_neg (by decide)], by rw [if_pos rfl, nxt_neg (by omega) (by omega), Nat.add_sub_cancel], ⟨fun h => by omega, fun h => ?_⟩⟩
      unfold wd at h; simp at h
  · rw [decide_eq_false c]
    simp only [c, if_false, Bool.false_eq_true]
    have hw : ∀ r, wd false r = r := fun r => by unfold wd; simp
    rw [hw]
    rcases h3 with h3 | ⟨h3, h4⟩
    · rw [h3]
      rcases m1 with m1 | m1
      · have hc : cmpI (1 * (mg (dn v) : Int)) (1 * (v : Int)) = 0 := (cmpI_eq (by omega) (by omega)).symm
        rw [hc, if_pos m1]; simp
      · have hc : cmpI (1 * (mg (dn v) : Int)) (1 * (v : Int)) = -1 := (cmpI_lt (by omega)).symm
        rw [hc, if_neg m1]
        refine ⟨by rw [if_neg (by decide)], by rw [if_pos rfl, nxt_pos hd], ⟨fun h => by omega, fun h => by omega⟩⟩
    · rw [h3]
      have hc : cmpI (1 * (mg (dn v + 1) : Int)) (1 * (v : Int)) = 1 := (cmpI_gt (by omega)).symm
      rw [hc, if_neg h4]
      refine ⟨by rw [if_pos rfl, prv_pos (by omega) (by omega), Nat.add_sub_cancel], by rw [if_neg (by decide)], ⟨fun h => by omega, fun h => by omega⟩⟩

theorem down_any (n : Int) (w : World) (l0 : -9223372036854775808 ≤ n) (l1 : n < 9223372036854775808) :
    Calls Tryz.prog 30 #[.int .i64 n] w fun e w' => e = .returned (.float .f64 (downW n)) ∧ w = w' := by
  obtain ⟨-, -, f1, f2, f3, -, -⟩ := near_facts l0 l1
  have ha := fun w => against_any (floatOfInt .f64 n) n w f1 f2 l0 l1
  have hp := fun w => prev_any (floatOfInt .f64 n) w f1
  have HA := Lib.hid ha; have HP := Lib.hid hp
  clear ha hp f1 f2
  by_cases c : cmpI (vl (floatOfInt .f64 n)) (n * (U : Int)) = 1
  · rw [if_pos c] at f3
    have hc : (cmpI (vl (floatOfInt .f64 n)) (n * (U : Int)) == 1) = true := by simp [c]
    have F3 := Lib.hid f3; clear f3 c l0 l1
    go_enter Tryz.func30, Tryz.ntmps30
    go_wp2_with (first | (go_at_call 56; refine (HA.out _).mono ?_; rintro e w' ⟨rfl, rfl⟩) | (go_at_call 58; refine (HP.out _).mono ?_; rintro e w' ⟨rfl, rfl⟩) | go_in)
    go_ret
    exact ⟨rf (by rw [F3.out]), rfl⟩
  · rw [if_neg c] at f3
    have hc : (cmpI (vl (floatOfInt .f64 n)) (n * (U : Int)) == 1) = false := by simpa using c
    have F3 := Lib.hid f3; clear f3 c l0 l1
    go_enter Tryz.func30, Tryz.ntmps30
    go_wp2_with (first | (go_at_call 56; refine (HA.out _).mono ?_; rintro e w' ⟨rfl, rfl⟩) | go_in)
    go_ret
    exact ⟨rf F3.out, rfl⟩

theorem up_any (n : Int) (w : World) (l0 : -9223372036854775808 ≤ n) (l1 : n < 9223372036854775808) :
    Calls Tryz.prog 31 #[.int .i64 n] w fun e w' => e = .returned (.float .f64 (upW n)) ∧ w = w' := by
  obtain ⟨-, -, f1, f2, -, f3, -⟩ := near_facts l0 l1
  have ha := fun w => against_any (floatOfInt .f64 n) n w f1 f2 l0 l1
  have hp := fun w => next_any (floatOfInt .f64 n) w f1
  have HA := Lib.hid ha; have HP := Lib.hid hp
  clear ha hp f1 f2
  by_cases c : cmpI (vl (floatOfInt .f64 n)) (n * (U : Int)) = -1
  · rw [if_pos c] at f3
    have hc : (cmpI (vl (floatOfInt .f64 n)) (n * (U : Int)) == -1) = true := by simp [c]
    have F3 := Lib.hid f3; clear f3 c l0 l1
    go_enter Tryz.func31, Tryz.ntmps31
    go_wp2_with (first | (go_at_call 56; refine (HA.out _).mono ?_; rintro e w' ⟨rfl, rfl⟩) | (go_at_call 59; refine (HP.out _).mono ?_; rintro e w' ⟨rfl, rfl⟩) | go_in)
    go_ret
    exact ⟨rf (by rw [F3.out]), rfl⟩
  · rw [if_neg c] at f3
    have hc : (cmpI (vl (floatOfInt .f64 n)) (n * (U : Int)) == -1) = false := by simpa using c
    have F3 := Lib.hid f3; clear f3 c l0 l1
    go_enter Tryz.func31, Tryz.ntmps31
    go_wp2_with (first | (go_at_call 56; refine (HA.out _).mono ?_; rintro e w' ⟨rfl, rfl⟩) | go_in)
    go_ret
    exact ⟨rf F3.out, rfl⟩

theorem exact_any (n : Int) (w : World) (l0 : -9223372036854775808 ≤ n) (l1 : n < 9223372036854775808) :
    Calls Tryz.prog 28 #[.int .i64 n] w fun e w' => e = .returned (.bool (decide (downW n = upW n))) ∧ w = w' := by
  obtain ⟨-, -, f1, f2, -, -, f3⟩ := near_facts l0 l1
  have ha := fun w => against_any (floatOfInt .f64 n) n w f1 f2 l0 l1
  have HA := Lib.hid ha
  have F3 := Lib.hid f3
  clear ha f1 f2 f3
  go_enter Tryz.func28, Tryz.ntmps28
  go_wp2_with (first | (go_at_call 56; refine (HA.out _).mono ?_; rintro e w' ⟨rfl, rfl⟩))
  go_ret
  exact ⟨rb (by rw [Bool.eq_iff_iff, beq_iff_eq, decide_eq_true_eq]; exact F3.out), rfl⟩

def fits (f : Int) : Bool := decide (-9223372036854775808 ≤ f) && decide (f < 9223372036854775808)
def wholeC (f : Int) : Int × Int := if fits f then (f, 0) else (0, 15)

theorem ret2_ii {a b c d : Int} {k k' : IntKind} (h : a = b) (h2 : c = d) : Ending.returned (.tuple #[.int k a, .int k' c]) = .returned (.tuple #[.int k b, .int k' d]) := by rw [h, h2]

/-- What a floor or a ceiling is worth, and whether it fits. -/
theorem int_facts (up : Bool) {x : Nat} (hx : x < 18446744073709551616) (hn : nan x = false) :
    intW up x < 18446744073709551616 ∧ nan (intW up x) = false ∧
    ((fits (intV up (vl x)) = true ∧ vl (intW up x) = intV up (vl x) * (U : Int)) ∨
     (fits (intV up (vl x)) = false ∧ (9223372036854775808 * (U : Int) ≤ vl (intW up x) ∨ vl (intW up x) < -9223372036854775808 * (U : Int)))) := by
  obtain ⟨y1, y2, y3⟩ := intW_spec up hx hn
  refine ⟨y1, y2, ?_⟩
  have hU := U_posI
  rcases y3 with ⟨h, he⟩ | ⟨_, he⟩
  · right
    have hb : (36893488147419103232 * (U : Int)) < (mg 9218868437227405312 : Int) := by have := big_lt; omega
    rw [he]
    rcases vl_inf hx h with ⟨_, e⟩ | ⟨_, e⟩ <;> rw [e]
    · refine ⟨?_, Or.inl (by omega)⟩
      have : 9223372036854775808 ≤ intV up (mg 9218868437227405312 : Int) := by
        unfold intV
        split
        · have : -(mg 9218868437227405312 : Int) / (U : Int) < -9223372036854775807 := Int.ediv_lt_of_lt_mul hU (by omega)
          omega
        · exact Int.le_ediv_of_mul_le hU (by omega)
      unfold fits
      rw [decide_eq_false (show ¬ intV up (mg 9218868437227405312 : Int) < 9223372036854775808 by omega), Bool.and_false]
    · refine ⟨?_, Or.inr (by omega)⟩
      have : intV up (-(mg 9218868437227405312 : Int)) < -9223372036854775808 := by
        unfold intV
        split
        · have : 9223372036854775809 ≤ -(-(mg 9218868437227405312 : Int)) / (U : Int) := Int.le_ediv_of_mul_le hU (by omega)
          omega
        · exact Int.ediv_lt_of_lt_mul hU (by omega)
      unfold fits
      rw [decide_eq_false (show ¬ -9223372036854775808 ≤ intV up (-(mg 9218868437227405312 : Int)) by omega), Bool.false_and]
  · rw [he]
    generalize intV up (vl x) = f
    unfold fits
    by_cases c1 : -9223372036854775808 ≤ f
    · by_cases c2 : f < 9223372036854775808
      · left; simp [c1, c2]
      · right
        refine ⟨by simp [c2], Or.inl (Int.mul_le_mul_of_nonneg_right (by omega) (by omega))⟩
    · right
      refine ⟨by simp [c1], Or.inr (Int.mul_lt_mul_of_pos_right (by omega) hU)⟩

def DrewI (w : World) (a b : Int) (e : Ending) (w' : World) : Prop := ∃ n, e = .returned (.tuple #[.int .i64 a, .int .i64 b]) ∧ w' = w.drewN n

end Fl
end Go.Proofs.YtmebmfgmopdieaaGreatDoor

/-! Halvings of whole numbers, as plain facts. -/
set_option linter.unusedSimpArgs false
set_option linter.unusedVariables false
set_option maxRecDepth 100000
namespace Go.Proofs.YtmebmfgmopdieaaGreatDoor
open Go.RowKit
namespace Fl

theorem vi {k : IntKind} {a b : Int} (h : a = b) : Value.int k a = Value.int k b := by rw [h]
theorem vb {a b : Bool} (h : a = b) : Value.bool a = Value.bool b := by rw [h]

theorem rep_int {c : Nat} (h : c ≤ 9007199254740992) : mg (dn (c * U)) = c * U := by
  by_cases c1 : c < 9007199254740992
  · exact mg_dn_int c1
  · have e : mg (E * 4503599627370496 + c) = c * U := by rw [mgk h (Or.inr (by omega)), U_pow]
    rw [← e, dn_mg]

/-- 'float64(c)' of a small c. -/
theorem float_small {c : Nat} (h : c ≤ 9007199254740992) : floatOfInt .f64 (c : Int) = dn (c * U) := by
  rw [floatOfInt_eq (by omega), Int.natAbs_natCast]
  have hw : ∀ r, wd false r = r := fun r => by unfold wd; simp
  rw [decide_eq_false (by omega), hw]
  have := rr_mg (dn (c * U))
  rw [rep_int h] at this
  exact this

/-- The state of the first loop: k halvings. -/
def lostB (m k : Nat) : Bool := m % 2 ^ k != 0

theorem lost_succ (m k : Nat) : lostB m (k + 1) = (lostB m k || (m / 2 ^ k % 2 == 1)) := by
  unfold lostB
  have e : m % 2 ^ (k + 1) = m % 2 ^ k + 2 ^ k * (m / 2 ^ k % 2) := Nat.mod_pow_succ
  have hp := Nat.two_pow_pos k
  rw [e]
  rcases Nat.mod_two_eq_zero_or_one (m / 2 ^ k) with h | h
  · rw [h]; simp
  · rw [h, Nat.mul_one, Bool.eq_iff_iff]
    simp

/-- What the reference's near gives. -/
def rnearW (m : Nat) (up : Bool) : Nat := if up then upr (m * U) else dn (m * U)

theorem near_end {m k : Nat} (h1 : m / 2 ^ k < 9007199254740992) (h2 : k = 0 ∨ 4503599627370496 ≤ m / 2 ^ k) :
    mg (dn (m * U)) = m / 2 ^ k * 2 ^ k * U ∧ (lostB m k = true → mg (dn (m * U) + 1) = (m / 2 ^ k + 1) * 2 ^ k * U) ∧ (mg (dn (m * U)) = m * U ↔ lostB m k = false) := by
  have hp := Nat.two_pow_pos k
  have hdm := Nat.div_add_mod m (2 ^ k)
  rw [Nat.mul_comm] at hdm
  have key : dn (m * U) = if k = 0 then dn (m * U) else (k + E) * 4503599627370496 + m / 2 ^ k := by
    by_cases hk : k = 0
    · rw [if_pos hk]
    · rw [if_neg hk]
      symm
      have hq : 4503599627370496 ≤ m / 2 ^ k := by omega
      refine dn_unique ?_ ?_
      · rw [mgk (by omega) (Or.inr hq), Nat.pow_add, ← U_pow, ← Nat.mul_assoc]
        exact Nat.mul_le_mul_right _ (by omega)
      · rw [Nat.add_assoc, mgk (by omega) (Or.inr (by omega)), Nat.pow_add, ← U_pow, ← Nat.mul_assoc]
        refine Nat.mul_lt_mul_of_pos_right ?_ U_pos
        have := Nat.mod_lt m hp
        rw [Nat.add_mul]; omega
  by_cases hk : k = 0
  · subst hk
    simp only [Nat.pow_zero, Nat.div_one, Nat.mul_one] at h1 ⊢
    have hr := rep_int (c := m) (by omega)
    refine ⟨hr, ?_, ?_⟩
    · unfold lostB; simp [Nat.mod_one]
    · unfold lostB; simp [Nat.mod_one, hr]
  · rw [if_neg hk] at key
    have hq : 4503599627370496 ≤ m / 2 ^ k := by omega
    have e1 : mg (dn (m * U)) = m / 2 ^ k * 2 ^ k * U := by
      rw [key, mgk (by omega) (Or.inr hq), Nat.pow_add, ← U_pow, ← Nat.mul_assoc]
    refine ⟨e1, ?_, ?_⟩
    · intro _
      rw [key, Nat.add_assoc, mgk (by omega) (Or.inr (by omega)), Nat.pow_add, ← U_pow, ← Nat.mul_assoc]
    · rw [e1]
      unfold lostB
      constructor
      · intro h
        have := Nat.eq_of_mul_eq_mul_right U_pos h
        simp; omega
      · intro h
        simp at h
        rw [show m / 2 ^ k * 2 ^ k = m by omega]

theorem half_facts {m k : Nat} (hm : m < 18446744073709551616) (hk : k = 0 ∨ 9007199254740992 ≤ m / 2 ^ (k - 1)) : k ≤ 11 := by
  rcases hk with h | h
  · omega
  · by_cases c : k ≤ 11
    · exact c
    · exfalso
      have h1 : 2 ^ 11 ≤ 2 ^ (k - 1) := Nat.pow_le_pow_right (by omega) (by omega)
      have h2 : m / 2 ^ (k - 1) ≤ m / 2 ^ 11 := Nat.div_le_div_left h1 (by omega)
      omega

theorem add_run (r : Nat) (h : 2 * mg r < mg 9218868437227405312) (w : World) :
    (binOp .add 27 (.float .f64 r) (.float .f64 r)).run Tryz.prog w = .ok (.float .f64 (dn (2 * mg r))) w :=
  run_float_arith w .add 27 .f64 r r _ (add_self h).1

def Half (m k : Nat) : Prop := k = 0 ∨ 9007199254740992 ≤ m / 2 ^ (k - 1)

theorem half_succ {m k : Nat} (h : 9007199254740992 ≤ m / 2 ^ k) : Half m (k + 1) := Or.inr (by simpa using h)

theorem rnear_tail {m k c : Nat} {up : Bool} (hm : m < 18446744073709551616) (hk : Half m k) (h1 : m / 2 ^ k < 9007199254740992) (hc : c = if lostB m k && up then m / 2 ^ k + 1 else m / 2 ^ k) {r : Nat} (hr : mg r = c * 2 ^ k * U) : r = rnearW m up := by
  have h2 : k = 0 ∨ 4503599627370496 ≤ m / 2 ^ k := by
    rcases hk with h | h
    · exact Or.inl h
    · by_cases hz : k = 0
      · exact Or.inl hz
      · right
        have e : m / 2 ^ k = m / 2 ^ (k - 1) / 2 := by
          rw [Nat.div_div_eq_div_mul, ← Nat.pow_succ]; congr 2; omega
        omega
  obtain ⟨e1, e2, e3⟩ := near_end h1 h2
  unfold rnearW
  cases up
  · simp at hc; subst hc
    simp only [Bool.false_eq_true, if_false]
    exact mg_inj (by rw [hr, e1])
  · simp only [if_true]
    unfold upr
    cases hl : lostB m k
    · rw [hl] at hc; simp at hc; subst hc
      rw [if_pos (e3.2 hl)]
      exact mg_inj (by rw [hr, e1])
    · rw [hl] at hc; simp at hc; subst hc
      rw [if_neg (by rw [e3, hl]; decide)]
      exact mg_inj (by rw [hr, e2 hl])

theorem dbl_eq (c j : Nat) : 2 * (c * 2 ^ j * U) = c * 2 ^ (j + 1) * U := by
  rw [Nat.pow_succ]; generalize 2 ^ j = p; generalize U = u; ac_rfl

set_option maxHeartbeats 400000 in
theorem upr_le {n : Int} (l0 : -9223372036854775808 ≤ n) (l1 : n < 9223372036854775808) : upr (n.natAbs * U) < 9218868437227405312 := by
  have h1 : 36893488147419103232 * U < mg 9218868437227405311 := by decide +kernel
  have h2 : n.natAbs * U ≤ 9223372036854775808 * U := Nat.mul_le_mul_right _ (by omega)
  have := @dn_lt (n.natAbs * U) 9218868437227405311 (by omega)
  unfold upr; split <;> omega

theorem dn_le_inf {n : Int} (l0 : -9223372036854775808 ≤ n) (l1 : n < 9223372036854775808) : dn (n.natAbs * U) < 9218868437227405312 := by
  have h := upr_le l0 l1
  unfold upr at h; split at h <;> omega

theorem negW_wd {r : Nat} (h : r ≤ 9218868437227405312) : negW r = wd true r := by
  rw [negW_eq (by omega), if_neg (by omega)]; rfl

end Fl
end Go.Proofs.YtmebmfgmopdieaaGreatDoor

