/- The calendar: years, leap years, months, as plain facts on whole numbers. No program in sight. -/
import Derived.WalkKit
import Derived.Test.YtipjmaimjchckaaGreatDoorRows
import Derived.WalkSpells
import Derived.WalkLawsBesides
import Derived.Lib.Hide
import Derived.LoopN
import Derived.Deep.RegionHeld3
import Derived.Deep.LoopGhost
/-! The calendar: years, leap years, months, as plain facts on whole numbers. No program in sight. -/
set_option linter.unusedSimpArgs false
set_option linter.unusedVariables false
namespace Go.Proofs.YtipjmaimjchckaaGreatDoor
namespace Cal

/-- How many leap years lie between the year 0 and y. -/
def bef (y : Int) : Int := 1 + (y - 1) / 4 - (y - 1) / 100 + (y - 1) / 400
/-- The first day of a year. -/
def st (y : Int) : Int := 365 * y + bef y
def leap (y : Int) : Bool := decide (y % 4 = 0) && (decide (y % 100 ≠ 0) || decide (y % 400 = 0))
def lp (y : Int) : Int := if leap y then 1 else 0

theorem lp_01 (y : Int) : 0 ≤ lp y ∧ lp y ≤ 1 := by unfold lp; split <;> omega

theorem bef_succ (y : Int) : bef (y + 1) = bef y + lp y := by
  unfold bef lp leap
  by_cases h4 : y % 4 = 0 <;> by_cases h1 : y % 100 = 0 <;> by_cases h5 : y % 400 = 0 <;> simp [h4, h1, h5] <;> omega

theorem st_succ (y : Int) : st (y + 1) = st y + 365 + lp y := by
  unfold st; rw [bef_succ]; omega

theorem st_mono {a b : Int} (h : a ≤ b) : st a + 365 * (b - a) ≤ st b := by
  unfold st bef; omega

theorem st_lt {a b : Int} (h : a < b) : st a < st b := by
  have := st_mono (a := a) (b := b) (by omega); omega

/-- The year that has a day. -/
def yof (d : Int) : Int := let y := 400 * d / 146097; if st (y + 1) ≤ d then y + 1 else if d < st y then y - 1 else y

theorem yof_spec (d : Int) : st (yof d) ≤ d ∧ d < st (yof d + 1) := by
  unfold yof
  have h1 : st (400 * d / 146097 + 2) = st (400 * d / 146097 + 1) + 365 + lp (400 * d / 146097 + 1) := by
    have := st_succ (400 * d / 146097 + 1)
    rw [show 400 * d / 146097 + 1 + 1 = 400 * d / 146097 + 2 by omega] at this; exact this
  have a : d < st (400 * d / 146097 + 2) := by unfold st bef; omega
  have b : st (400 * d / 146097 - 1) ≤ d := by unfold st bef; omega
  generalize 400 * d / 146097 = y at *
  show st (if st (y + 1) ≤ d then y + 1 else if d < st y then y - 1 else y) ≤ d ∧ d < st ((if st (y + 1) ≤ d then y + 1 else if d < st y then y - 1 else y) + 1)
  split
  · exact ⟨by assumption, by rw [show y + 1 + 1 = y + 2 by omega]; exact a⟩
  · split
    · exact ⟨b, by rw [show y - 1 + 1 = y by omega]; assumption⟩
    · omega

theorem yof_unique {d y : Int} (h1 : st y ≤ d) (h2 : d < st (y + 1)) : yof d = y := by
  obtain ⟨a, b⟩ := yof_spec d
  by_cases c : yof d = y
  · exact c
  · rcases Int.lt_or_gt_of_ne c with c | c
    · have := st_mono (a := yof d + 1) (b := y) (by omega); omega
    · have := st_mono (a := y + 1) (b := yof d) (by omega); omega

theorem yof_le {d y : Int} : yof d < y ↔ d < st y := by
  obtain ⟨a, b⟩ := yof_spec d
  constructor
  · intro h
    have := st_mono (a := yof d + 1) (b := y) (by omega); omega
  · intro h
    by_cases c : yof d < y
    · exact c
    · have := st_mono (a := y) (b := yof d) (by omega); omega

/-- The reference's first day of a year. -/
def rst (y : Int) : Int := y / 400 * 146097 + 365 * (y - y / 400 * 400) + (y - y / 400 * 400 + 3) / 4 - (y - y / 400 * 400 + 99) / 100 + (y - y / 400 * 400 + 399) / 400
theorem rst_eq (y : Int) : rst y = st y := by unfold rst st bef; omega

/-- How many days a month has. -/
def len (y m : Int) : Int := if m = 2 then 28 + lp y else if m = 4 ∨ m = 6 ∨ m = 9 ∨ m = 11 then 30 else 31
/-- How many days lie ahead of a month in its year (m from 1 to 13). -/
def cum (y m : Int) : Int := if m ≤ 1 then 0 else if m ≤ 2 then 31 else (if m ≤ 3 then 59 else if m ≤ 4 then 90 else if m ≤ 5 then 120 else if m ≤ 6 then 151 else if m ≤ 7 then 181 else if m ≤ 8 then 212 else if m ≤ 9 then 243 else if m ≤ 10 then 273 else if m ≤ 11 then 304 else if m ≤ 12 then 334 else 365) + lp y
theorem cum_succ (y m : Int) (h1 : 1 ≤ m) (h2 : m ≤ 12) : cum y (m + 1) = cum y m + len y m := by
  unfold cum len
  have : m = 1 ∨ m = 2 ∨ m = 3 ∨ m = 4 ∨ m = 5 ∨ m = 6 ∨ m = 7 ∨ m = 8 ∨ m = 9 ∨ m = 10 ∨ m = 11 ∨ m = 12 := by omega
  rcases this with rfl | rfl | rfl | rfl | rfl | rfl | rfl | rfl | rfl | rfl | rfl | rfl <;> simp <;> omega
theorem len_bd (y m : Int) : 28 ≤ len y m ∧ len y m ≤ 31 := by
  have := lp_01 y
  unfold len; split
  · omega
  · split <;> omega
theorem cum_bd {y m : Int} (h1 : 1 ≤ m) (h2 : m ≤ 13) : 0 ≤ cum y m ∧ cum y m ≤ 366 := by
  have := lp_01 y
  unfold cum
  have : m = 1 ∨ m = 2 ∨ m = 3 ∨ m = 4 ∨ m = 5 ∨ m = 6 ∨ m = 7 ∨ m = 8 ∨ m = 9 ∨ m = 10 ∨ m = 11 ∨ m = 12 ∨ m = 13 := by omega
  rcases this with rfl | rfl | rfl | rfl | rfl | rfl | rfl | rfl | rfl | rfl | rfl | rfl | rfl <;> simp <;> omega
theorem cum_one (y : Int) : cum y 1 = 0 := by unfold cum; simp
theorem cum_last (y : Int) : cum y 13 = 365 + lp y := by unfold cum; simp
theorem cum_chain (y : Int) : cum y 2 = cum y 1 + len y 1 ∧ cum y 3 = cum y 2 + len y 2 ∧ cum y 4 = cum y 3 + len y 3 ∧ cum y 5 = cum y 4 + len y 4 ∧ cum y 6 = cum y 5 + len y 5 ∧ cum y 7 = cum y 6 + len y 6 ∧ cum y 8 = cum y 7 + len y 7 ∧ cum y 9 = cum y 8 + len y 8 ∧ cum y 10 = cum y 9 + len y 9 ∧ cum y 11 = cum y 10 + len y 10 ∧ cum y 12 = cum y 11 + len y 11 ∧ cum y 13 = cum y 12 + len y 12 :=
  ⟨cum_succ y 1 (by omega) (by omega), cum_succ y 2 (by omega) (by omega), cum_succ y 3 (by omega) (by omega), cum_succ y 4 (by omega) (by omega), cum_succ y 5 (by omega) (by omega), cum_succ y 6 (by omega) (by omega), cum_succ y 7 (by omega) (by omega), cum_succ y 8 (by omega) (by omega), cum_succ y 9 (by omega) (by omega), cum_succ y 10 (by omega) (by omega), cum_succ y 11 (by omega) (by omega), cum_succ y 12 (by omega) (by omega)⟩
theorem cum_mono {y a b : Int} (h1 : 1 ≤ a) (h : a < b) (h2 : b ≤ 13) : cum y a + len y a ≤ cum y b := by
  obtain ⟨n, rfl⟩ : ∃ n : Nat, b = a + 1 + n := ⟨(b - a - 1).toNat, by omega⟩
  clear h
  induction n with
  | zero => have := cum_succ y a h1 (by omega); simp; omega
  | succ n ih =>
    have h3 := ih (by omega)
    have h4 := cum_succ y (a + 1 + n) (by omega) (by omega)
    have h5 := len_bd y (a + 1 + n)
    rw [show a + 1 + ((n + 1 : Nat) : Int) = a + 1 + n + 1 by omega]; omega

/-- The month that has the d-th day of a year (d from 0). -/
def mof (y d : Int) : Int := if d < cum y 2 then 1 else if d < cum y 3 then 2 else if d < cum y 4 then 3 else if d < cum y 5 then 4 else if d < cum y 6 then 5 else if d < cum y 7 then 6 else if d < cum y 8 then 7 else if d < cum y 9 then 8 else if d < cum y 10 then 9 else if d < cum y 11 then 10 else if d < cum y 12 then 11 else 12
theorem mof_unique {y d m : Int} (h1 : 1 ≤ m) (h2 : m ≤ 12) (ha : cum y m ≤ d) (hb : d < cum y (m + 1)) : mof y d = m := by
  obtain ⟨c1, c2, c3, c4, c5, c6, c7, c8, c9, c10, c11, c12⟩ := cum_chain y
  have l1 := len_bd y 1; have l2 := len_bd y 2; have l3 := len_bd y 3; have l4 := len_bd y 4; have l5 := len_bd y 5; have l6 := len_bd y 6
  have l7 := len_bd y 7; have l8 := len_bd y 8; have l9 := len_bd y 9; have l10 := len_bd y 10; have l11 := len_bd y 11; have l12 := len_bd y 12
  unfold mof
  have : m = 1 ∨ m = 2 ∨ m = 3 ∨ m = 4 ∨ m = 5 ∨ m = 6 ∨ m = 7 ∨ m = 8 ∨ m = 9 ∨ m = 10 ∨ m = 11 ∨ m = 12 := by omega
  rcases this with rfl | rfl | rfl | rfl | rfl | rfl | rfl | rfl | rfl | rfl | rfl | rfl
  · rw [show (1 : Int) + 1 = 2 from rfl] at hb; rw [if_pos hb]
  · rw [show (2 : Int) + 1 = 3 from rfl] at hb; rw [if_neg (by omega), if_pos hb]
  · rw [show (3 : Int) + 1 = 4 from rfl] at hb; rw [if_neg (by omega), if_neg (by omega), if_pos hb]
  · rw [show (4 : Int) + 1 = 5 from rfl] at hb; rw [if_neg (by omega), if_neg (by omega), if_neg (by omega), if_pos hb]
  · rw [show (5 : Int) + 1 = 6 from rfl] at hb; rw [if_neg (by omega), if_neg (by omega), if_neg (by omega), if_neg (by omega), if_pos hb]
  · rw [show (6 : Int) + 1 = 7 from rfl] at hb; rw [if_neg (by omega), if_neg (by omega), if_neg (by omega), if_neg (by omega), if_neg (by omega), if_pos hb]
  · rw [show (7 : Int) + 1 = 8 from rfl] at hb; rw [if_neg (by omega), if_neg (by omega), if_neg (by omega), if_neg (by omega), if_neg (by omega), if_neg (by omega), if_pos hb]
  · rw [show (8 : Int) + 1 = 9 from rfl] at hb; rw [if_neg (by omega), if_neg (by omega), if_neg (by omega), if_neg (by omega), if_neg (by omega), if_neg (by omega), if_neg (by omega), if_pos hb]
  · rw [show (9 : Int) + 1 = 10 from rfl] at hb; rw [if_neg (by omega), if_neg (by omega), if_neg (by omega), if_neg (by omega), if_neg (by omega), if_neg (by omega), if_neg (by omega), if_neg (by omega), if_pos hb]
  · rw [show (10 : Int) + 1 = 11 from rfl] at hb; rw [if_neg (by omega), if_neg (by omega), if_neg (by omega), if_neg (by omega), if_neg (by omega), if_neg (by omega), if_neg (by omega), if_neg (by omega), if_neg (by omega), if_pos hb]
  · rw [show (11 : Int) + 1 = 12 from rfl] at hb; rw [if_neg (by omega), if_neg (by omega), if_neg (by omega), if_neg (by omega), if_neg (by omega), if_neg (by omega), if_neg (by omega), if_neg (by omega), if_neg (by omega), if_neg (by omega), if_pos hb]
  · rw [if_neg (by omega), if_neg (by omega), if_neg (by omega), if_neg (by omega), if_neg (by omega), if_neg (by omega), if_neg (by omega), if_neg (by omega), if_neg (by omega), if_neg (by omega), if_neg (by omega)]
theorem mof_spec {y d : Int} (h0 : 0 ≤ d) (h : d < 365 + lp y) : 1 ≤ mof y d ∧ mof y d ≤ 12 ∧ cum y (mof y d) ≤ d ∧ d < cum y (mof y d + 1) := by
  have key : ∃ m, 1 ≤ m ∧ m ≤ 12 ∧ cum y m ≤ d ∧ d < cum y (m + 1) := by
    by_cases c2 : d < cum y 2
    · exact ⟨1, by omega, by omega, by rw [cum_one]; omega, c2⟩
    by_cases c3 : d < cum y 3
    · exact ⟨2, by omega, by omega, by omega, c3⟩
    by_cases c4 : d < cum y 4
    · exact ⟨3, by omega, by omega, by omega, c4⟩
    by_cases c5 : d < cum y 5
    · exact ⟨4, by omega, by omega, by omega, c5⟩
    by_cases c6 : d < cum y 6
    · exact ⟨5, by omega, by omega, by omega, c6⟩
    by_cases c7 : d < cum y 7
    · exact ⟨6, by omega, by omega, by omega, c7⟩
    by_cases c8 : d < cum y 8
    · exact ⟨7, by omega, by omega, by omega, c8⟩
    by_cases c9 : d < cum y 9
    · exact ⟨8, by omega, by omega, by omega, c9⟩
    by_cases c10 : d < cum y 10
    · exact ⟨9, by omega, by omega, by omega, c10⟩
    by_cases c11 : d < cum y 11
    · exact ⟨10, by omega, by omega, by omega, c11⟩
    by_cases c12 : d < cum y 12
    · exact ⟨11, by omega, by omega, by omega, c12⟩
    · exact ⟨12, by omega, by omega, by omega, by rw [show (12 : Int) + 1 = 13 by rfl, cum_last]; exact h⟩
  obtain ⟨m, h1, h2, h3, h4⟩ := key
  rw [mof_unique h1 h2 h3 h4]
  exact ⟨h1, h2, h3, h4⟩

end Cal
end Go.Proofs.YtipjmaimjchckaaGreatDoor

/-! THE WALKS of layer 1 (ints): Div, Mod, Sub, by numbers above 0. -/
set_option linter.unusedSimpArgs false
set_option linter.unusedVariables false
namespace Go.Proofs.YtipjmaimjchckaaGreatDoor
open Go.RowKit
namespace Un
theorem ri {k : IntKind} {a b : Int} (h : a = b) : Ending.returned (.int k a) = .returned (.int k b) := by rw [h]
theorem rb {a b : Bool} (h : a = b) : Ending.returned (.bool a) = .returned (.bool b) := by rw [h]
theorem ret2_ii {a b c d : Int} {k k' : IntKind} (h : a = b) (h2 : c = d) : Ending.returned (.tuple #[.int k a, .int k' c]) = .returned (.tuple #[.int k b, .int k' d]) := by rw [h, h2]

theorem ret2_bi {a b : Bool} {c d : Int} {k : IntKind} (h : a = b) (h2 : c = d) : Ending.returned (.tuple #[.bool a, .int k c]) = .returned (.tuple #[.bool b, .int k d]) := by rw [h, h2]

theorem div_cases {a b : Int} (hb : 0 < b) :
    (a.tmod b ≠ 0 ∧ a < 0 → a.tdiv b - 1 = a / b ∧ a.tmod b + b = a % b) ∧ (a.tmod b = 0 ∨ 0 ≤ a → a.tdiv b = a / b ∧ a.tmod b = a % b) ∧ (a.tmod b ≠ 0 → (a.tmod b < 0 ↔ a < 0)) := by
  have h1 := @Int.tdiv_eq_ediv a b
  have h2 := @Int.tmod_eq_emod a b
  rw [Int.sign_eq_one_of_pos hb] at h1
  have h3 := Int.emod_nonneg a (show b ≠ 0 by omega)
  have h4 := Int.emod_lt_of_pos a hb
  by_cases c : 0 ≤ a ∨ b ∣ a
  · rw [if_pos c] at h1 h2
    simp only [Int.natCast_zero, Int.sub_zero, Int.add_zero] at h1 h2
    refine ⟨fun ⟨h5, h6⟩ => ?_, fun _ => ⟨h1, h2⟩, fun h5 => ?_⟩
    · exfalso
      rcases c with c | c
      · omega
      · exact h5 (Int.tmod_eq_zero_of_dvd c)
    · rcases c with c | c
      · constructor <;> intro h <;> omega
      · exact absurd (Int.tmod_eq_zero_of_dvd c) h5
  · rw [if_neg c] at h1 h2
    have hn : (b.natAbs : Int) = b := by omega
    rw [hn] at h2
    have ha : a < 0 := by
      by_cases q : a < 0
      · exact q
      · exact absurd (Or.inl (by omega)) c
    have h5 : a.tmod b ≠ 0 := fun h => c (Or.inr (Int.dvd_of_tmod_eq_zero h))
    refine ⟨fun _ => ⟨by omega, by omega⟩, fun h => ?_, fun _ => ⟨fun _ => ha, fun _ => by omega⟩⟩
    rcases h with h | h
    · exact absurd h h5
    · omega

theorem wrap_in {n : Int} (h0 : -9223372036854775808 ≤ n) (h1 : n < 9223372036854775808) : wrap64 n = n := by
  unfold wrap64; omega
theorem ediv_bd {a b : Int} (hb : 1 < b) (h0 : -9223372036854775808 ≤ a) (h1 : a < 9223372036854775808) : -9223372036854775808 ≤ a / b ∧ a / b < 9223372036854775808 := by
  refine ⟨(Int.le_ediv_iff_mul_le (by omega)).2 (by omega), (Int.ediv_lt_iff_lt_mul (by omega)).2 (by omega)⟩

theorem intsDiv (a b : Int) (w : World) (hb : 1 < b) (hb2 : b < 9223372036854775808) (h0 : -9223372036854775808 ≤ a) (h1 : a < 9223372036854775808) :
    Calls Tryz.prog 96 #[.int .i64 a, .int .i64 b] w fun e w' => e = .returned (.tuple #[.int .i64 (a / b), .int .i64 0]) ∧ w = w' := by
  obtain ⟨c1, c2, c3⟩ := @div_cases a b (by omega)
  have b0 : (b == 0) = false := by rw [beq_eq_false_iff_ne]; omega
  have b1 : (b == -1) = false := by rw [beq_eq_false_iff_ne]; omega
  have b2 : decide (b < 0) = false := decide_eq_false (by omega)
  by_cases ha : 0 ≤ a
  · have a2 : decide (a < 0) = false := decide_eq_false (by omega)
    clear c1 c2 c3
    by_cases hz : a % b = 0
    · have hz2 : (a % b != 0) = false := by rw [hz]; rfl
      have HZ := Lib.hid hz
      clear hz
      go_enter Tryz.func96, Tryz.ntmps96
      go_wp2
      go_ret2
      exact ⟨ret2_ii (by first | rfl | exact HZ.out.symm) rfl, rfl⟩
    · have hz2 : (a % b != 0) = true := by rw [bne_iff_ne]; exact hz
      have m2 : decide (a % b < 0) = false := decide_eq_false (by have := Int.emod_nonneg a (show b ≠ 0 by omega); omega)
      clear hz
      go_enter Tryz.func96, Tryz.ntmps96
      go_wp2
      go_ret2
      exact ⟨rfl, rfl⟩
  · have a2 : decide (a < 0) = true := decide_eq_true (by omega)
    by_cases hz : a.tmod b = 0
    · obtain ⟨e1, e2⟩ := c2 (Or.inl hz)
      have hz2 : (a.tmod b != 0) = false := by rw [hz]; rfl
      have E1 := Lib.hid e1; have E2 := Lib.hid e2
      clear hz e1 e2 c1 c2 c3
      go_enter Tryz.func96, Tryz.ntmps96
      go_wp2
      go_ret2
      exact ⟨ret2_ii E1.out rfl, rfl⟩
    · obtain ⟨e1, e2⟩ := c1 ⟨hz, by omega⟩
      have hz2 : (a.tmod b != 0) = true := by rw [bne_iff_ne]; exact hz
      have m2 : decide (a.tmod b < 0) = true := decide_eq_true ((c3 hz).2 (by omega))
      have w1 : wrap64 (a.tdiv b - 1) = a / b := by rw [e1]; exact wrap_in (ediv_bd hb h0 h1).1 (ediv_bd hb h0 h1).2
      have w2 : wrap64 (a.tmod b + b) = a % b := by rw [e2]; exact wrap_in (by have := Int.emod_nonneg a (show b ≠ 0 by omega); omega) (by have := Int.emod_lt_of_pos a (show 0 < b by omega); omega)
      have E1 := Lib.hid e1; have E2 := Lib.hid e2
      clear hz e1 e2 c1 c2 c3
      go_enter Tryz.func96, Tryz.ntmps96
      go_wp2
      go_ret2
      exact ⟨rfl, rfl⟩
theorem intsMod (a b : Int) (w : World) (hb : 1 < b) (hb2 : b < 9223372036854775808) (h0 : -9223372036854775808 ≤ a) (h1 : a < 9223372036854775808) :
    Calls Tryz.prog 97 #[.int .i64 a, .int .i64 b] w fun e w' => e = .returned (.tuple #[.int .i64 (a % b), .int .i64 0]) ∧ w = w' := by
  obtain ⟨c1, c2, c3⟩ := @div_cases a b (by omega)
  have b0 : (b == 0) = false := by rw [beq_eq_false_iff_ne]; omega
  have b1 : (b == -1) = false := by rw [beq_eq_false_iff_ne]; omega
  have b2 : decide (b < 0) = false := decide_eq_false (by omega)
  by_cases ha : 0 ≤ a
  · have a2 : decide (a < 0) = false := decide_eq_false (by omega)
    clear c1 c2 c3
    by_cases hz : a % b = 0
    · have hz2 : (a % b != 0) = false := by rw [hz]; rfl
      have HZ := Lib.hid hz
      clear hz
      go_enter Tryz.func97, Tryz.ntmps97
      go_wp2
      go_ret2
      exact ⟨ret2_ii (by first | rfl | exact HZ.out.symm) rfl, rfl⟩
    · have hz2 : (a % b != 0) = true := by rw [bne_iff_ne]; exact hz
      have m2 : decide (a % b < 0) = false := decide_eq_false (by have := Int.emod_nonneg a (show b ≠ 0 by omega); omega)
      clear hz
      go_enter Tryz.func97, Tryz.ntmps97
      go_wp2
      go_ret2
      exact ⟨rfl, rfl⟩
  · have a2 : decide (a < 0) = true := decide_eq_true (by omega)
    by_cases hz : a.tmod b = 0
    · obtain ⟨e1, e2⟩ := c2 (Or.inl hz)
      have hz2 : (a.tmod b != 0) = false := by rw [hz]; rfl
      have E1 := Lib.hid e1; have E2 := Lib.hid e2
      clear hz e1 e2 c1 c2 c3
      go_enter Tryz.func97, Tryz.ntmps97
      go_wp2
      go_ret2
      exact ⟨ret2_ii E2.out rfl, rfl⟩
    · obtain ⟨e1, e2⟩ := c1 ⟨hz, by omega⟩
      have hz2 : (a.tmod b != 0) = true := by rw [bne_iff_ne]; exact hz
      have m2 : decide (a.tmod b < 0) = true := decide_eq_true ((c3 hz).2 (by omega))
      have w1 : wrap64 (a.tdiv b - 1) = a / b := by rw [e1]; exact wrap_in (ediv_bd hb h0 h1).1 (ediv_bd hb h0 h1).2
      have w2 : wrap64 (a.tmod b + b) = a % b := by rw [e2]; exact wrap_in (by have := Int.emod_nonneg a (show b ≠ 0 by omega); omega) (by have := Int.emod_lt_of_pos a (show 0 < b by omega); omega)
      have E1 := Lib.hid e1; have E2 := Lib.hid e2
      clear hz e1 e2 c1 c2 c3
      go_enter Tryz.func97, Tryz.ntmps97
      go_wp2
      go_ret2
      exact ⟨rfl, rfl⟩

theorem yearsCheck_ok (y : Int) (w : World) (h0 : -10000000000000000 ≤ y) (h1 : y ≤ 10000000000000000) :
    Calls Tryz.prog 101 #[.int .i64 y] w fun e w' => e = .returned (.int .i64 0) ∧ w = w' := by
  go_enter Tryz.func101, Tryz.ntmps101
  go_wp2
  go_ret
  exact ⟨rfl, rfl⟩
theorem yearsCheck_no (y : Int) (w : World) (h : y < -10000000000000000 ∨ 10000000000000000 < y) :
    Calls Tryz.prog 101 #[.int .i64 y] w fun e w' => e = .returned (.int .i64 6) ∧ w = w' := by
  rcases h with h | h
  · go_enter Tryz.func101, Tryz.ntmps101
    go_wp2
    go_ret
    exact ⟨rfl, rfl⟩
  · have h2 : ¬ y < -10000000000000000 := by omega
    go_enter Tryz.func101, Tryz.ntmps101
    go_wp2
    go_ret
    exact ⟨rfl, rfl⟩

end Un
end Go.Proofs.YtipjmaimjchckaaGreatDoor

/-! THE WALKS of layer 4 (years). -/
set_option linter.unusedSimpArgs false
set_option linter.unusedVariables false
namespace Go.Proofs.YtipjmaimjchckaaGreatDoor
open Go.RowKit
namespace Un
open Cal

/-- The table of years reads as its text lays it. -/
def StepsOk (w : World) : Prop := ∃ b o, w.cell? ⟨3, 0, none⟩ = some (.slice (some ⟨b, o, none⟩) 3 3) ∧
  w.cell? ⟨b, o, none⟩ = some (.int .i64 4) ∧ w.cell? ⟨b, o + 1, none⟩ = some (.int .i64 1) ∧
  w.cell? ⟨b, o + 2, none⟩ = some (.int .i64 100) ∧ w.cell? ⟨b, o + 3, none⟩ = some (.int .i64 (-1)) ∧
  w.cell? ⟨b, o + 4, none⟩ = some (.int .i64 400) ∧ w.cell? ⟨b, o + 5, none⟩ = some (.int .i64 1)

theorem StepsOk.below {w w' : World} (h : StepsOk w) (hb : Below w.heap.size w w') : StepsOk w' := by
  obtain ⟨b, o, h0, h1, h2, h3, h4, h5, h6⟩ := h
  exact ⟨b, o, cell_later hb h0, cell_later hb h1, cell_later hb h2, cell_later hb h3, cell_later hb h4, cell_later hb h5, cell_later hb h6⟩

theorem bcell {W w1 : World} (hb : Below W.heap.size W w1) : (∀ b o, b < W.heap.size → w1.cell? ⟨b, o, none⟩ = W.cell? ⟨b, o, none⟩) ∧ (∀ b o, b < W.heap.size → w1.frozen? ⟨b, o, none⟩ = W.frozen? ⟨b, o, none⟩) :=
  ⟨fun b o h => hb.cell (p := ⟨b, o, none⟩) h, fun b o h => hb.frozen (p := ⟨b, o, none⟩) h⟩

theorem ba {W w : World} (h : Below W.heap.size W w) (o : Obj) : Below W.heap.size W (w.alloc o) := h.alloc h.size o
theorem bt {W w w2 : World} (h : Below W.heap.size W w) (h2 : Below w.heap.size w w2) : Below W.heap.size W w2 := h.trans (h2.mono h.size)

set_option maxHeartbeats 1000000 in
theorem before_any (y : Int) (w : World) (hs : StepsOk w) (h0 : -30000000000000000 ≤ y) (h1 : y ≤ 30000000000000000) :
    Calls Tryz.prog 131 #[.int .i64 y] w fun e w' => e = .returned (.int .i64 (bef y)) ∧ Below w.heap.size w w' := by
  obtain ⟨b, o, g0, g1, g2, g3, g4, g5, g6⟩ := hs
  have l0 := World.block_lt_of_cell? _ _ g0
  have l1 := World.block_lt_of_cell? _ _ g1
  go_enter Tryz.func131, Tryz.ntmps131
  go_wp2
  refine wp_loop_rounds 4 ?_
  rw [rounds_succ]
  go_wp2_with (go_at_call 96; refine (intsDiv _ _ _ (by omega) (by omega) (by omega) (by omega)).mono ?_; rintro e w' ⟨rfl, rfl⟩)
  rw [rounds_succ]
  go_wp2_with (go_at_call 96; refine (intsDiv _ _ _ (by omega) (by omega) (by omega) (by omega)).mono ?_; rintro e w' ⟨rfl, rfl⟩)
  rw [rounds_succ]
  go_wp2_with (go_at_call 96; refine (intsDiv _ _ _ (by omega) (by omega) (by omega) (by omega)).mono ?_; rintro e w' ⟨rfl, rfl⟩)
  rw [rounds_succ]
  go_wp2
  go_ret
  exact ⟨ri (by unfold bef; omega), ba (ba (ba (Below.refl _ _) _) _) _⟩

theorem bef_bd {y : Int} (h0 : -30000000000000000 ≤ y) (h1 : y ≤ 30000000000000000) : -30000000000000000 ≤ bef y ∧ bef y ≤ 30000000000000000 := by
  unfold bef; omega
theorem st_bd {y : Int} (h0 : -30000000000000000 ≤ y) (h1 : y ≤ 30000000000000000) : -11000000000000000000 ≤ st y ∧ st y ≤ 11000000000000000000 := by
  unfold st bef; omega
theorem st_bd2 {y : Int} (h0 : -25000000000000000 ≤ y) (h1 : y ≤ 25000000000000000) : -9200000000000000000 ≤ st y ∧ st y ≤ 9200000000000000000 := by
  unfold st bef; omega

theorem start_any (y : Int) (w : World) (hs : StepsOk w) (h0 : -25000000000000000 ≤ y) (h1 : y ≤ 25000000000000000) :
    Calls Tryz.prog 100 #[.int .i64 y] w fun e w' => e = .returned (.int .i64 (st y)) ∧ Below w.heap.size w w' := by
  have hb := bef_bd (y := y) (by omega) (by omega)
  have hb2 := st_bd2 h0 h1
  have e : 365 * y + bef y = st y := rfl
  have k1 : -9200000000000000000 ≤ 365 * y + bef y := by omega
  have k2 : 365 * y + bef y ≤ 9200000000000000000 := by omega
  have E := Lib.hid e; clear e hb2
  go_enter Tryz.func100, Tryz.ntmps100
  go_wp2_with (go_at_call 131; refine (before_any _ _ hs (by omega) (by omega)).mono ?_; rintro e w' ⟨rfl, hb1⟩)
  go_ret
  exact ⟨ri E.out, hb1⟩

theorem yearsStart_ok (y : Int) (w : World) (hs : StepsOk w) (h0 : -10000000000000000 ≤ y) (h1 : y ≤ 10000000000000000) :
    Calls Tryz.prog 102 #[.int .i64 y] w fun e w' => e = .returned (.tuple #[.int .i64 (st y), .int .i64 0]) ∧ Below w.heap.size w w' := by
  go_enter Tryz.func102, Tryz.ntmps102
  go_wp2_with (first | (go_at_call 101; refine (yearsCheck_ok _ _ (by omega) (by omega)).mono ?_; rintro e w' ⟨rfl, rfl⟩) | (go_at_call 100; refine (start_any _ _ hs (by omega) (by omega)).mono ?_; rintro e w' ⟨rfl, hb1⟩))
  go_ret2
  exact ⟨rfl, hb1⟩
theorem yearsStart_no (y : Int) (w : World) (h : y < -10000000000000000 ∨ 10000000000000000 < y) :
    Calls Tryz.prog 102 #[.int .i64 y] w fun e w' => e = .returned (.tuple #[.int .i64 0, .int .i64 6]) ∧ w = w' := by
  have H := Lib.hid h; clear h
  go_enter Tryz.func102, Tryz.ntmps102
  go_wp2_with (go_at_call 101; refine (yearsCheck_no _ _ H.out).mono ?_; rintro e w' ⟨rfl, rfl⟩)
  go_ret2
  exact ⟨rfl, rfl⟩
theorem yearsEnd_ok (y : Int) (w : World) (hs : StepsOk w) (h0 : -10000000000000000 ≤ y) (h1 : y ≤ 10000000000000000) :
    Calls Tryz.prog 103 #[.int .i64 y] w fun e w' => e = .returned (.tuple #[.int .i64 (st (y + 1) - 1), .int .i64 0]) ∧ Below w.heap.size w w' := by
  have hb2 := st_bd2 (y := y + 1) (by omega) (by omega)
  obtain ⟨k1, k2⟩ := hb2
  go_enter Tryz.func103, Tryz.ntmps103
  go_wp2_with (first | (go_at_call 101; refine (yearsCheck_ok _ _ (by omega) (by omega)).mono ?_; rintro e w' ⟨rfl, rfl⟩) | (go_at_call 100; refine (start_any _ _ hs (by omega) (by omega)).mono ?_; rintro e w' ⟨rfl, hb1⟩))
  go_ret2
  exact ⟨rfl, hb1⟩
theorem yearsEnd_no (y : Int) (w : World) (h : y < -10000000000000000 ∨ 10000000000000000 < y) :
    Calls Tryz.prog 103 #[.int .i64 y] w fun e w' => e = .returned (.tuple #[.int .i64 0, .int .i64 6]) ∧ w = w' := by
  have H := Lib.hid h; clear h
  go_enter Tryz.func103, Tryz.ntmps103
  go_wp2_with (go_at_call 101; refine (yearsCheck_no _ _ H.out).mono ?_; rintro e w' ⟨rfl, rfl⟩)
  go_ret2
  exact ⟨rfl, rfl⟩

set_option maxHeartbeats 400000 in
theorem yearsLeap_ok (y : Int) (w : World) (hs : StepsOk w) (h0 : -10000000000000000 ≤ y) (h1 : y ≤ 10000000000000000) :
    Calls Tryz.prog 132 #[.int .i64 y] w fun e w' => e = .returned (.tuple #[.bool (leap y), .int .i64 0]) ∧ Below w.heap.size w w' := by
  have e : decide (bef y < bef (y + 1)) = leap y := by
    rw [bef_succ]; unfold lp
    cases leap y
    · exact decide_eq_false (by simp)
    · exact decide_eq_true (by simp; omega)
  have E := Lib.hid e; clear e
  go_enter Tryz.func132, Tryz.ntmps132
  go_wp2_with fail
  refine (yearsCheck_ok _ _ (by omega) (by omega)).mono ?_; rintro e w' ⟨rfl, rfl⟩
  go_wp2_with fail
  refine (before_any _ _ hs (by omega) (by omega)).mono ?_; rintro e w1 ⟨rfl, hb1⟩
  go_wp2_with fail
  refine (before_any _ _ (hs.below hb1) (by omega) (by omega)).mono ?_; rintro e w2 ⟨rfl, hb2⟩
  go_wp2
  go_ret2
  exact ⟨ret2_bi E.out rfl, bt hb1 hb2⟩
end Un
end Go.Proofs.YtipjmaimjchckaaGreatDoor

/-! THE WALKS of sort.Search and of years.Of. -/
set_option linter.unusedSimpArgs false
set_option linter.unusedVariables false
namespace Go.Proofs.YtipjmaimjchckaaGreatDoor
open Go.RowKit
namespace Un
open Cal

theorem vi {k : IntKind} {a b : Int} (h : a = b) : Value.int k a = Value.int k b := by rw [h]
theorem StepsOk.drew {w : World} (h : StepsOk w) : StepsOk w.drew := h

set_option maxHeartbeats 400000 in
theorem search_any (g : Nat) (cb : Array Value) (n k : Nat) (p : Int → Bool) (w : World) (eg : ∀ args w, (callFunc g args).run Tryz.prog w = .ok (.enter g args) w) (hn : n ≤ 4611686018427387904) (hk : k ≤ n)
    (hlo : ∀ i : Nat, i < k → p i = false) (hhi : ∀ i : Nat, k ≤ i → i < n → p i = true)
    (hf : ∀ (i : Nat) (W : World), i < n → Below w.heap.size w W → Calls Tryz.prog g (#[.int .i64 i] ++ cb) W fun e w' => e = .returned (.bool (p i)) ∧ Below W.heap.size W w') :
    Calls Tryz.prog 98 #[.int .i64 n, .func (.func g) #[] cb] w fun e w' => e = .returned (.int .i64 k) ∧ Below w.heap.size w w' := by
  have HF := Lib.hid hf
  have HLO := Lib.hid hlo; have HHI := Lib.hid hhi
  clear hf hlo hhi
  go_enter Tryz.func98, Tryz.ntmps98
  go_wp2
  go_loopw [5, 6] (fun i j wr => ∃ lo hi : Nat, lo ≤ k ∧ k ≤ hi ∧ hi ≤ n ∧ i = .int .i64 (lo : Int) ∧ j = .int .i64 (hi : Int) ∧ Below w.heap.size w wr) (fun i j _ => (intOf j - intOf i).toNat)
  case atStart => exact ⟨0, n, by omega, by omega, by omega, rfl, rfl, Below.refl _ _⟩
  case round =>
    obtain ⟨lo, hi, h1, h2, h3, rfl, rfl, hb⟩ := hrel
    have HB := Lib.hid hb; clear hb
    by_cases hlt : lo < hi
    · obtain ⟨m, hm⟩ : ∃ m : Nat, m = (lo + hi) / 2 := ⟨_, rfl⟩
      by_cases hmk : m < k
      · have HP := Lib.hid (HLO.out m hmk)
        go_wp2_with fail
        rw [show ((lo : Int) + (hi : Int)) / 2 = (m : Int) from by omega]
        refine (HF.out m _ (by omega) HB.out).mono ?_; rintro e w' ⟨rfl, hb1⟩
        rw [HP.out]
        have HB1 := Lib.hid (bt HB.out hb1); clear hb1
        go_wp2
        go_roundw
        case rel => exact ⟨m + 1, hi, by omega, by omega, by omega, vi (by omega), rfl, HB1.out⟩
        case measure => simp [intOf]; omega
      · have HP := Lib.hid (HHI.out m (by omega) (by omega))
        go_wp2_with fail
        rw [show ((lo : Int) + (hi : Int)) / 2 = (m : Int) from by omega]
        refine (HF.out m _ (by omega) HB.out).mono ?_; rintro e w' ⟨rfl, hb1⟩
        rw [HP.out]
        have HB1 := Lib.hid (bt HB.out hb1); clear hb1
        go_wp2
        go_roundw
        case rel => exact ⟨lo, m, by omega, by omega, by omega, rfl, vi (by omega), HB1.out⟩
        case measure => simp [intOf]; omega
    · have e : lo = k := by omega
      subst e
      go_wp2
      go_ret
      exact ⟨rfl, HB.out⟩

theorem yearOf1_any (i r : Int) (a : Addr) (w : World) (hs : StepsOk w) (hc : w.cell? a = some (.int .i64 r)) (h0 : -1000 ≤ i) (h1 : i ≤ 1000) :
    Calls Tryz.prog 99 #[.int .i64 i, .pointer (some a)] w fun e w' => e = .returned (.bool (decide (r < st (i + 1)))) ∧ Below w.heap.size w w' := by
  have hw : IntKind.i64.wrap (i + 1) = i + 1 := by rw [IntKind.wrap_i64]; omega
  have hn := World.block_lt_of_cell? _ _ hc
  go_enter Tryz.func99, Tryz.ntmps99
  go_wp2
  go_region_held3 (fun w' => w'.cell? a = some (.int .i64 r) ∧ StepsOk w' ∧ Below w.heap.size w w') (first | exact ⟨hc, hs.drew, (Below.refl _ _).drew⟩ | exact ⟨cell_later hb1 hc, hs.drew.below hb1, bt (Below.refl _ _).drew hb1⟩) ((first | (go_at_call 100; refine (start_any _ _ hs.drew (by omega) (by omega)).mono ?_; rintro e w' ⟨rfl, hb1⟩)))
  rename_i hh
  have HB := Lib.hid hh.2.2
  clear hh hb1
  go_wp2
  go_ret
  exact ⟨rfl, HB.out⟩

theorem st_cycle (q z : Int) : st (400 * q + z) = 146097 * q + st z := by unfold st bef; omega
theorem yof_cycle (d : Int) : yof d = 400 * (d / 146097) + yof (d % 146097) := by
  obtain ⟨h1, h2⟩ := yof_spec (d % 146097)
  refine yof_unique ?_ ?_
  · rw [st_cycle]; omega
  · rw [show 400 * (d / 146097) + yof (d % 146097) + 1 = 400 * (d / 146097) + (yof (d % 146097) + 1) by omega, st_cycle]; omega
theorem yof_small {r : Int} (h0 : 0 ≤ r) (h1 : r < 146097) : 0 ≤ yof r ∧ yof r < 400 := by
  obtain ⟨a, b⟩ := yof_spec r
  have z0 : st 0 = 0 := by decide
  have z1 : st 400 = 146097 := by decide
  constructor
  · by_cases c : 0 ≤ yof r
    · exact c
    · have := st_mono (a := yof r + 1) (b := 0) (by omega); omega
  · by_cases c : yof r < 400
    · exact c
    · have := st_mono (a := 400) (b := yof r) (by omega); omega
theorem yof_bd {d : Int} (h0 : -9223372036854775808 ≤ d) (h1 : d < 9223372036854775808) : -25300000000000000 ≤ yof d ∧ yof d ≤ 25300000000000000 := by
  rw [yof_cycle]
  have := @yof_small (d % 146097) (by omega) (by omega)
  omega

def yearOfC (d : Int) : Int × Int := if -10000000000000000 ≤ yof d ∧ yof d ≤ 10000000000000000 then (yof d, 0) else (0, 6)

set_option maxHeartbeats 400000 in
theorem yearOf_any (d : Int) (w : World) (hs : StepsOk w) (h0 : -9223372036854775808 ≤ d) (h1 : d < 9223372036854775808) :
    Calls Tryz.prog 69 #[.int .i64 d] w fun e w' => e = .returned (.tuple #[.int .i64 (yearOfC d).1, .int .i64 (yearOfC d).2]) ∧ Below w.heap.size w w' := by
  have hsm := @yof_small (d % 146097) (by omega) (by omega)
  obtain ⟨s1, s2⟩ := yof_spec (d % 146097)
  have hcyc := yof_cycle d
  obtain ⟨k, hk⟩ : ∃ k : Nat, (k : Int) = yof (d % 146097) := ⟨(yof (d % 146097)).toNat, by omega⟩
  rw [← hk] at hsm s1 s2 hcyc
  have hlo : ∀ i : Nat, i < k → decide (d % 146097 < st ((i : Int) + 1)) = false := fun i hi => decide_eq_false (by have := st_mono (a := (i : Int) + 1) (b := k) (by omega); omega)
  have hhi : ∀ i : Nat, k ≤ i → i < 400 → decide (d % 146097 < st ((i : Int) + 1)) = true := fun i hi _ => decide_eq_true (by have := st_mono (a := (k : Int) + 1) (b := (i : Int) + 1) (by omega); omega)
  have hk4 : k ≤ 400 := by omega
  have q0 : -63131877573220 ≤ d / 146097 := by omega
  have q1 : d / 146097 ≤ 63131877573220 := by omega
  have k0 : (0 : Int) ≤ (k : Int) := by omega
  have k1 : (k : Int) ≤ 400 := by omega
  have hsz : ∀ o W, Below (w.alloc o).heap.size (w.alloc o) W → Below w.heap.size w W := fun o W h => bt (ba (Below.refl _ _) o) h
  have hse : ∀ W, Below (w.alloc (.cells #[.int .i64 (d % 146097)] 2)).heap.size (w.alloc (.cells #[.int .i64 (d % 146097)] 2)) W → W.cell? ⟨w.heap.size, 0, none⟩ = some (.int .i64 (d % 146097)) := fun W h =>
    cell_later h (by rw [World.cell?_alloc_new]; rfl)
  have HS := Lib.hid (fun W : World => fun hb : Below (w.alloc (.cells #[.int .i64 (d % 146097)] 2)).heap.size (w.alloc (.cells #[.int .i64 (d % 146097)] 2)) W => search_any 99 #[.pointer (some ⟨w.heap.size, 0, none⟩)] 400 k (fun i => decide (d % 146097 < st (i + 1))) W (fun args w => by kernel_rfl) (by omega) hk4 hlo hhi (fun i W2 hi hb2 => yearOf1_any i (d % 146097) _ W2 ((hs.below (hsz _ _ hb)).below hb2) (hse W2 (bt hb hb2)) (by omega) (by omega)))
  have hres : yearOfC d = if -10000000000000000 ≤ 400 * (d / 146097) + (k : Int) ∧ 400 * (d / 146097) + (k : Int) ≤ 10000000000000000 then (400 * (d / 146097) + (k : Int), 0) else (0, 6) := by
    unfold yearOfC; rw [hcyc]
  have HRES := Lib.hid hres
  have HSZ := Lib.hid hsz
  clear hres hlo hhi hsm s1 s2 hcyc hk hse hsz
  by_cases c : -10000000000000000 ≤ 400 * (d / 146097) + (k : Int) ∧ 400 * (d / 146097) + (k : Int) ≤ 10000000000000000
  · have hr := HRES.out
    rw [if_pos c] at hr
    have HR := Lib.hid hr
    obtain ⟨c0, c1⟩ := c
    clear hr
    go_enter Tryz.func69, Tryz.ntmps69
    go_wp2_with (first
      | (go_at_call 96; refine (intsDiv _ _ _ (by omega) (by omega) (by omega) (by omega)).mono ?_; rintro e w' ⟨rfl, rfl⟩)
      | (go_at_call 97; refine (intsMod _ _ _ (by omega) (by omega) (by omega) (by omega)).mono ?_; rintro e w' ⟨rfl, rfl⟩)
      | (go_at_call 101; refine (yearsCheck_ok _ _ (by omega) (by omega)).mono ?_; rintro e w' ⟨rfl, rfl⟩)
      | (go_at_call 98; refine (HS.out _ (Below.refl _ _)).mono ?_; rintro e w' ⟨rfl, hb1⟩))
    go_ret2
    exact ⟨ret2_ii (by rw [HR.out]) (by rw [HR.out]), HSZ.out _ _ hb1⟩
  · have hr := HRES.out
    rw [if_neg c] at hr
    have HR := Lib.hid hr
    have HC : Hid (400 * (d / 146097) + (k : Int) < -10000000000000000 ∨ 10000000000000000 < 400 * (d / 146097) + (k : Int)) := Lib.hid (by omega)
    clear hr c
    go_enter Tryz.func69, Tryz.ntmps69
    go_wp2_with (first
      | (go_at_call 96; refine (intsDiv _ _ _ (by omega) (by omega) (by omega) (by omega)).mono ?_; rintro e w' ⟨rfl, rfl⟩)
      | (go_at_call 97; refine (intsMod _ _ _ (by omega) (by omega) (by omega) (by omega)).mono ?_; rintro e w' ⟨rfl, rfl⟩)
      | (go_at_call 101; refine (yearsCheck_no _ _ HC.out).mono ?_; rintro e w' ⟨rfl, rfl⟩)
      | (go_at_call 98; refine (HS.out _ (Below.refl _ _)).mono ?_; rintro e w' ⟨rfl, hb1⟩))
    go_ret2
    exact ⟨ret2_ii (by rw [HR.out]) (by rw [HR.out]), HSZ.out _ _ hb1⟩
end Un
end Go.Proofs.YtipjmaimjchckaaGreatDoor

/-! THE WALKS of layer 5 (months). -/
set_option linter.unusedSimpArgs false
set_option linter.unusedVariables false
namespace Go.Proofs.YtipjmaimjchckaaGreatDoor
open Go.RowKit
namespace Un
open Cal

def ml (i : Nat) : Int := if i = 1 then 28 else if i = 3 ∨ i = 5 ∨ i = 8 ∨ i = 10 then 30 else 31
def LengthsOk (w : World) : Prop := ∀ i : Nat, i < 12 → w.cell? ⟨0, i, none⟩ = some (.int .i64 (ml i))
theorem LengthsOk.below {w w' : World} (h : LengthsOk w) (hb : Below w.heap.size w w') : LengthsOk w' := fun i hi => cell_later hb (h i hi)

/-- The tables of the calendar read as their text lays them. -/
structure CalOk (w : World) : Prop where
  steps : StepsOk w
  lens : LengthsOk w
theorem CalOk.below {w w' : World} (h : CalOk w) (hb : Below w.heap.size w w') : CalOk w' := ⟨h.steps.below hb, h.lens.below hb⟩

theorem ml_len {y : Int} {n : Nat} (h : n < 12) (hl : leap y = false ∨ n ≠ 1) : ml n = len y ((n : Int) + 1) := by
  unfold ml len lp
  rcases hl with hl | hl
  · rw [hl]
    simp only [Bool.false_eq_true, if_false]
    (repeat' split) <;> omega
  · (repeat' split) <;> omega

theorem length_any (y m : Int) (w : World) (hs : CalOk w) (h0 : -10000000000000000 ≤ y) (h1 : y ≤ 10000000000000000) (m0 : 1 ≤ m) (m1 : m ≤ 12) :
    Calls Tryz.prog 105 #[.int .i64 y, .int .i64 m] w fun e w' => e = .returned (.int .i64 (len y m)) ∧ Below w.heap.size w w' := by
  obtain ⟨n, rfl⟩ : ∃ n : Nat, m = (n : Int) + 1 := ⟨(m - 1).toNat, by omega⟩
  have hn : n < 12 := by omega
  have HC := Lib.hid (fun (W : World) (hb : Below w.heap.size w W) => (hs.below hb).lens n hn)
  have HL := Lib.hid (yearsLeap_ok y w hs.steps h0 h1)
  have i0 : (0 : Int) ≤ (n : Int) := by omega
  have i1 : (n : Int) < 12 := by omega
  by_cases hl : leap y = true
  · rw [hl] at HL
    by_cases h2 : n = 1
    · subst h2
      have e : 29 = len y ((1 : Nat) + 1) := by unfold len lp; rw [hl]; rfl
      have E := Lib.hid e
      clear e hl
      go_enter Tryz.func105, Tryz.ntmps105
      go_wp2_with (go_at_call 132; refine HL.out.mono ?_; rintro e w' ⟨rfl, hb1⟩)
      go_ret
      exact ⟨ri E.out, hb1⟩
    · have E := Lib.hid (ml_len (y := y) hn (Or.inr h2))
      have t : ((n : Int) + 1 == 2) = false := by rw [beq_eq_false_iff_ne]; omega
      clear h2 hl
      go_enter Tryz.func105, Tryz.ntmps105
      go_wp2_with fail
      refine HL.out.mono ?_; rintro e w' ⟨rfl, hb1⟩
      have hc := HC.out _ hb1
      go_wp2
      go_ret
      exact ⟨ri E.out, hb1⟩
  · have hl2 : leap y = false := by cases h : leap y; rfl; exact absurd h hl
    rw [hl2] at HL
    have E := Lib.hid (ml_len (y := y) hn (Or.inl hl2))
    clear hl hl2
    go_enter Tryz.func105, Tryz.ntmps105
    go_wp2_with fail
    refine HL.out.mono ?_; rintro e w' ⟨rfl, hb1⟩
    have hc := HC.out _ hb1
    go_wp2
    go_ret
    exact ⟨ri E.out, hb1⟩

/-- The error of a month. -/
def mErr (y m : Int) : Int := if -10000000000000000 ≤ y ∧ y ≤ 10000000000000000 then (if 1 ≤ m ∧ m ≤ 12 then 0 else 7) else 6

theorem monthsCheck_any (y m : Int) (w : World) :
    Calls Tryz.prog 133 #[.int .i64 y, .int .i64 m] w fun e w' => e = .returned (.int .i64 (mErr y m)) ∧ w = w' := by
  by_cases c : -10000000000000000 ≤ y ∧ y ≤ 10000000000000000
  · by_cases c2 : 1 ≤ m ∧ m ≤ 12
    · have E : Hid (0 = mErr y m) := Lib.hid (by unfold mErr; rw [if_pos c, if_pos c2])
      obtain ⟨a, b⟩ := c
      obtain ⟨p, q⟩ := c2
      go_enter Tryz.func133, Tryz.ntmps133
      go_wp2_with (go_at_call 101; refine (yearsCheck_ok _ _ (by omega) (by omega)).mono ?_; rintro e w' ⟨rfl, rfl⟩)
      go_ret
      exact ⟨ri E.out, rfl⟩
    · have E : Hid (7 = mErr y m) := Lib.hid (by unfold mErr; rw [if_pos c, if_neg c2])
      obtain ⟨a, b⟩ := c
      by_cases p : m < 1
      · clear c2
        go_enter Tryz.func133, Tryz.ntmps133
        go_wp2_with (go_at_call 101; refine (yearsCheck_ok _ _ (by omega) (by omega)).mono ?_; rintro e w' ⟨rfl, rfl⟩)
        go_ret
        exact ⟨ri E.out, rfl⟩
      · have q : 12 < m := by omega
        clear c2
        go_enter Tryz.func133, Tryz.ntmps133
        go_wp2_with (go_at_call 101; refine (yearsCheck_ok _ _ (by omega) (by omega)).mono ?_; rintro e w' ⟨rfl, rfl⟩)
        go_ret
        exact ⟨ri E.out, rfl⟩
  · have E : Hid (6 = mErr y m) := Lib.hid (by unfold mErr; rw [if_neg c])
    have C : Hid (y < -10000000000000000 ∨ 10000000000000000 < y) := Lib.hid (by omega)
    clear c
    go_enter Tryz.func133, Tryz.ntmps133
    go_wp2_with (go_at_call 101; refine (yearsCheck_no _ _ C.out).mono ?_; rintro e w' ⟨rfl, rfl⟩)
    go_ret
    exact ⟨ri E.out, rfl⟩

theorem monthsStart_no (y m : Int) (w : World) (h : mErr y m ≠ 0) :
    Calls Tryz.prog 106 #[.int .i64 y, .int .i64 m] w fun e w' => e = .returned (.tuple #[.int .i64 0, .int .i64 (mErr y m)]) ∧ w = w' := by
  have t : (mErr y m != 0) = true := by rw [bne_iff_ne]; exact h
  clear h
  go_enter Tryz.func106, Tryz.ntmps106
  go_wp2_with (go_at_call 133; refine (monthsCheck_any _ _ _).mono ?_; rintro e w' ⟨rfl, rfl⟩)
  go_ret2
  exact ⟨rfl, rfl⟩

set_option maxHeartbeats 400000 in
theorem monthsStart_ok (y m : Int) (w : World) (hs : CalOk w) (h0 : -10000000000000000 ≤ y) (h1 : y ≤ 10000000000000000) (m0 : 1 ≤ m) (m1 : m ≤ 12) :
    Calls Tryz.prog 106 #[.int .i64 y, .int .i64 m] w fun e w' => e = .returned (.tuple #[.int .i64 (st y + cum y m), .int .i64 0]) ∧ Below w.heap.size w w' := by
  obtain ⟨n, rfl⟩ : ∃ n : Nat, m = (n : Int) + 1 := ⟨(m - 1).toNat, by omega⟩
  have e : mErr y ((n : Int) + 1) = 0 := by unfold mErr; rw [if_pos ⟨h0, h1⟩, if_pos ⟨m0, m1⟩]
  have HM := monthsCheck_any y ((n : Int) + 1) w
  rw [e] at HM
  have HM := Lib.hid HM
  obtain ⟨b0, b1⟩ := st_bd2 (y := y) (by omega) (by omega)
  have HS := Lib.hid hs
  clear hs e
  go_enter Tryz.func106, Tryz.ntmps106
  go_wp2_with (first | (go_at_call 133; refine HM.out.mono ?_; rintro e w' ⟨rfl, rfl⟩) | (go_at_call 102; refine (yearsStart_ok _ _ HS.out.steps (by omega) (by omega)).mono ?_; rintro e w' ⟨rfl, hb1⟩))
  have HB := Lib.hid hb1; clear hb1
  go_loopw [7, 9, 23] (fun d i j wr => ∃ k : Nat, k ≤ n ∧ d = .int .i64 (st y + cum y ((k : Int) + 1)) ∧ j = .int .i64 (k : Int) ∧ Below w.heap.size w wr) (fun _ _ j _ => n - (intOf j).toNat)
  case atStart => exact ⟨0, by omega, by rw [show ((0 : Nat) : Int) + 1 = 1 from rfl, cum_one, Int.add_zero], rfl, HB.out⟩
  case round =>
    obtain ⟨k, hk, rfl, rfl, hb⟩ := hrel
    have HB2 := Lib.hid hb; clear hb
    have cb := @cum_bd y ((k : Int) + 1) (by omega) (by omega)
    by_cases hlt : k < n
    · have hl := len_bd y ((k : Int) + 1)
      have hcs := cum_succ y ((k : Int) + 1) (by omega) (by omega)
      have HCS := Lib.hid hcs; clear hcs
      go_wp2_with (go_at_call 105; refine (length_any _ _ _ (HS.out.below HB2.out) (by omega) (by omega) (by omega) (by omega)).mono ?_; rintro e w' ⟨rfl, hb3⟩)
      have HB3 := Lib.hid (bt HB2.out hb3); clear hb3
      go_roundw
      case rel => exact ⟨k + 1, by omega, vi (by rw [show ((k + 1 : Nat) : Int) + 1 = (k : Int) + 1 + 1 by omega, HCS.out]; omega), by go_num, HB3.out⟩
      case measure => simp [intOf]; omega
    · have e : k = n := by omega
      subst e
      go_wp2
      go_ret2
      exact ⟨rfl, HB2.out⟩

theorem monthsEnd_no (y m : Int) (w : World) (h : mErr y m ≠ 0) :
    Calls Tryz.prog 107 #[.int .i64 y, .int .i64 m] w fun e w' => e = .returned (.tuple #[.int .i64 0, .int .i64 (mErr y m)]) ∧ w = w' := by
  have t : (mErr y m != 0) = true := by rw [bne_iff_ne]; exact h
  have H := Lib.hid h
  clear h
  go_enter Tryz.func107, Tryz.ntmps107
  go_wp2_with (go_at_call 106; refine (monthsStart_no _ _ _ H.out).mono ?_; rintro e w' ⟨rfl, rfl⟩)
  go_ret2
  exact ⟨rfl, rfl⟩

theorem monthsEnd_ok (y m : Int) (w : World) (hs : CalOk w) (h0 : -10000000000000000 ≤ y) (h1 : y ≤ 10000000000000000) (m0 : 1 ≤ m) (m1 : m ≤ 12) :
    Calls Tryz.prog 107 #[.int .i64 y, .int .i64 m] w fun e w' => e = .returned (.tuple #[.int .i64 (st y + cum y (m + 1) - 1), .int .i64 0]) ∧ Below w.heap.size w w' := by
  obtain ⟨b0, b1⟩ := st_bd2 (y := y) (by omega) (by omega)
  have cb := @cum_bd y m (by omega) (by omega)
  have lb := len_bd y m
  have E : Hid (st y + cum y m + len y m - 1 = st y + cum y (m + 1) - 1) := Lib.hid (by rw [cum_succ y m m0 m1]; omega)
  go_enter Tryz.func107, Tryz.ntmps107
  go_wp2_with fail
  refine (monthsStart_ok _ _ _ hs h0 h1 m0 m1).mono ?_; rintro e w1 ⟨rfl, hb1⟩
  go_wp2_with fail
  refine (length_any _ _ _ (hs.below hb1) h0 h1 m0 m1).mono ?_; rintro e w2 ⟨rfl, hb2⟩
  go_wp2
  go_ret2
  exact ⟨ret2_ii E.out rfl, bt hb1 hb2⟩

theorem ret3_iii {a b c d e f : Int} {k k' k2 : IntKind} (h : a = b) (h2 : c = d) (h3 : e = f) : Ending.returned (.tuple #[.int k a, .int k' c, .int k2 e]) = .returned (.tuple #[.int k b, .int k' d, .int k2 f]) := by rw [h, h2, h3]

/-- The year, the month and the error of a day. -/
def monthOfC (d : Int) : Int × Int × Int := if -10000000000000000 ≤ yof d ∧ yof d ≤ 10000000000000000 then (yof d, mof (yof d) (d - st (yof d)), 0) else (0, 0, 6)

set_option maxHeartbeats 400000 in
theorem monthsOf_any (d : Int) (w : World) (hs : CalOk w) (h0 : -9223372036854775808 ≤ d) (h1 : d < 9223372036854775808) :
    Calls Tryz.prog 72 #[.int .i64 d] w fun e w' => e = .returned (.tuple #[.int .i64 (monthOfC d).1, .int .i64 (monthOfC d).2.1, .int .i64 (monthOfC d).2.2]) ∧ Below w.heap.size w w' := by
  have HY := yearOf_any d w hs.steps h0 h1
  by_cases c : -10000000000000000 ≤ yof d ∧ yof d ≤ 10000000000000000
  · rw [show yearOfC d = (yof d, 0) by unfold yearOfC; rw [if_pos c]] at HY
    have HR : Hid (monthOfC d = (yof d, mof (yof d) (d - st (yof d)), 0)) := Lib.hid (by unfold monthOfC; rw [if_pos c])
    obtain ⟨s1, s2⟩ := yof_spec d
    rw [st_succ] at s2
    have hms := @mof_spec (yof d) (d - st (yof d)) (by omega) (by omega)
    obtain ⟨c0, c1⟩ := c
    generalize yof d = y at *
    generalize hm : mof y (d - st y) = m at *
    have HMU := Lib.hid hm
    obtain ⟨m0, m1, g0, g1⟩ := hms
    have lp1 := lp_01 y
    have HY := Lib.hid HY
    have HS := Lib.hid hs
    clear hs hm
    have sb := st_bd2 (y := y) (by omega) (by omega)
    obtain ⟨sb0, sb1⟩ := sb
    have k0 : 0 ≤ d - st y := by omega
    have k1 : d - st y ≤ 366 := by omega
    have G0 := Lib.hid g0; have G1 := Lib.hid g1
    clear g0 g1 s1 s2
    go_enter Tryz.func72, Tryz.ntmps72
    go_wp2_with fail
    refine HY.out.mono ?_; rintro e w1 ⟨rfl, hb1⟩
    go_wp2_with fail
    refine (yearsStart_ok _ _ (HS.out.below hb1).steps (by omega) (by omega)).mono ?_; rintro e w2 ⟨rfl, hb2⟩
    have HB := Lib.hid (bt hb1 hb2); clear hb1 hb2
    go_wp2_with fail
    go_loopw [2, 7, 26] (fun yy l j wr => ∃ k : Nat, (k : Int) + 1 ≤ m ∧ yy = .int .i64 y ∧ l = .int .i64 (d - st y - cum y ((k : Int) + 1)) ∧ j = .int .i64 (k : Int) ∧ Below w.heap.size w wr) (fun _ _ j _ => 12 - (intOf j).toNat)
    case atStart => exact ⟨0, by omega, rfl, by rw [show ((0 : Nat) : Int) + 1 = 1 from rfl, cum_one, Int.sub_zero], rfl, HB.out⟩
    case round =>
      obtain ⟨k, hk, rfl, rfl, rfl, hb⟩ := hrel
      have HB2 := Lib.hid hb; clear hb h0 h1 sb0 sb1
      have cb := @cum_bd y ((k : Int) + 1) (by omega) (by omega)
      have hl := len_bd y ((k : Int) + 1)
      have HCS := Lib.hid (cum_succ y ((k : Int) + 1) (by omega) (by omega))
      by_cases hlt : (k : Int) + 1 < m
      · have t : ¬ d - st y - cum y ((k : Int) + 1) < len y ((k : Int) + 1) := by
          have := HCS.out; have := G0.out
          by_cases q : (k : Int) + 1 + 1 = m
          · rw [← q] at this; omega
          · have := @cum_mono y ((k : Int) + 1) m (by omega) (by omega) (by omega)
            omega
        go_wp2_with (go_at_call 105; refine (length_any _ _ _ (HS.out.below HB2.out) (by omega) (by omega) (by omega) (by omega)).mono ?_; rintro e w' ⟨rfl, hb3⟩)
        have HB3 := Lib.hid (bt HB2.out hb3); clear hb3
        go_roundw
        case rel => exact ⟨k + 1, by omega, rfl, vi (by rw [show ((k + 1 : Nat) : Int) + 1 = (k : Int) + 1 + 1 by omega, HCS.out]; omega), by go_num, HB3.out⟩
        case measure => simp [intOf]; omega
      · have e : m = (k : Int) + 1 := by omega
        subst e
        have t : d - st y - cum y ((k : Int) + 1) < len y ((k : Int) + 1) := by have := HCS.out; have := G1.out; omega
        go_wp2_with (go_at_call 105; refine (length_any _ _ _ (HS.out.below HB2.out) (by omega) (by omega) (by omega) (by omega)).mono ?_; rintro e w' ⟨rfl, hb3⟩)
        go_ret3
        exact ⟨ret3_iii (by rw [HR.out]) (by rw [HR.out]) (by rw [HR.out]), bt HB2.out hb3⟩
  · rw [show yearOfC d = (0, 6) by unfold yearOfC; rw [if_neg c]] at HY
    have HR : Hid (monthOfC d = (0, 0, 6)) := Lib.hid (by unfold monthOfC; rw [if_neg c])
    have HY := Lib.hid HY
    clear c hs
    go_enter Tryz.func72, Tryz.ntmps72
    go_wp2_with (go_at_call 69; refine HY.out.mono ?_; rintro e w1 ⟨rfl, hb1⟩)
    go_ret3
    exact ⟨ret3_iii (by rw [HR.out]) (by rw [HR.out]) (by rw [HR.out]), hb1⟩
end Un
end Go.Proofs.YtipjmaimjchckaaGreatDoor

