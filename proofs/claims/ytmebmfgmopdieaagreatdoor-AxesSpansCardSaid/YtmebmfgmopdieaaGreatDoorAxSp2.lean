/- THE WALKS of axes.Overlap, Order, Width, Middle. -/
import Derived.Test.YtmebmfgmopdieaaGreatDoorAxSp1
set_option linter.unusedSimpArgs false
set_option linter.unusedVariables false
set_option maxRecDepth 100000
namespace Go.Proofs.YtmebmfgmopdieaaGreatDoor
open Go.RowKit
namespace Ax
open Fl

def leB (x y : Nat) : Bool := FloatKind.f64.format.order x y == some Ordering.lt || FloatKind.f64.format.order x y == some Ordering.eq
def overB (x0 x1 x2 x3 : Nat) : Bool := !(nan x0 || nan x1 || nan x2 || nan x3) && (leB x0 x3 && leB x2 x1)
def ordV (x0 x1 x2 x3 : Nat) : Int := if cmpI ((ky x0 : Nat) : Int) ((ky x2 : Nat) : Int) = 0 then cmpI ((ky x1 : Nat) : Int) ((ky x3 : Nat) : Int) else cmpI ((ky x0 : Nat) : Int) ((ky x2 : Nat) : Int)

theorem overlap_any (x0 x1 x2 x3 : Nat) (e f : Bool) (w : World) (h0 : x0 < 18446744073709551616) (h1 : x1 < 18446744073709551616) (h2 : x2 < 18446744073709551616) (h3 : x3 < 18446744073709551616) :
    Calls Tryz.prog 25 #[sv x0 x1 e, sv x2 x3 f] w fun r w' => r = .returned (.bool (overB x0 x1 x2 x3)) ∧ Below w.heap.size w w' := by
  have H0 := Lib.hid (fun w => isNan_any x0 w h0)
  have H1 := Lib.hid (fun w => isNan_any x1 w h1)
  have H2 := Lib.hid (fun w => isNan_any x2 w h2)
  have H3 := Lib.hid (fun w => isNan_any x3 w h3)
  have HX := Lib.hid (show overB x0 x1 x2 x3 = (!(nan x0 || nan x1 || nan x2 || nan x3) && (leB x0 x3 && leB x2 x1)) from rfl)
  obtain ⟨l1, hl1⟩ : ∃ l, l = leB x0 x3 := ⟨_, rfl⟩
  obtain ⟨l2, hl2⟩ : ∃ l, l = leB x2 x1 := ⟨_, rfl⟩
  rw [← hl1, ← hl2] at HX
  unfold leB at hl1 hl2
  obtain ⟨n0, e0⟩ : ∃ l, l = nan x0 := ⟨_, rfl⟩
  obtain ⟨n1, e1⟩ : ∃ l, l = nan x1 := ⟨_, rfl⟩
  obtain ⟨n2, e2⟩ : ∃ l, l = nan x2 := ⟨_, rfl⟩
  obtain ⟨n3, e3⟩ : ∃ l, l = nan x3 := ⟨_, rfl⟩
  rw [← e0] at H0 HX; rw [← e1] at H1 HX; rw [← e2] at H2 HX; rw [← e3] at H3 HX
  clear h0 h1 h2 h3 e0 e1 e2 e3
  unfold sv
  have g1 := hl1.symm; have g2 := hl2.symm
  clear hl1 hl2
  go_enter Tryz.func25, Tryz.ntmps25
  go_wp2_with (go_at_call 52; (first | with_reducible refine (H0.out _).mono ?_ | with_reducible refine (H1.out _).mono ?_ | with_reducible refine (H2.out _).mono ?_ | with_reducible refine (H3.out _).mono ?_); rintro _ w' ⟨rfl, rfl⟩)
  all_goals go_ret
  all_goals refine ⟨rb ?_, ba (ba (Below.refl _ _) _) _⟩
  all_goals rw [HX.out]
  all_goals simp_all

theorem order2_any (x0 x1 x2 x3 : Nat) (e f : Bool) (w : World) (h0 : x0 < 18446744073709551616) (h1 : x1 < 18446744073709551616) (h2 : x2 < 18446744073709551616) (h3 : x3 < 18446744073709551616) :
    Calls Tryz.prog 26 #[sv x0 x1 e, sv x2 x3 f] w fun r w' => r = .returned (.int .i64 (ordV x0 x1 x2 x3)) ∧ Below w.heap.size w w' := by
  have H0 := Lib.hid (fun w => order_any x0 x2 w h0 h2)
  have H1 := Lib.hid (fun w => order_any x1 x3 w h1 h3)
  clear h0 h1 h2 h3
  unfold sv ordV
  obtain ⟨p, hp⟩ : ∃ p, p = cmpI ((ky x0 : Nat) : Int) ((ky x2 : Nat) : Int) := ⟨_, rfl⟩
  obtain ⟨q, hq⟩ : ∃ p, p = cmpI ((ky x1 : Nat) : Int) ((ky x3 : Nat) : Int) := ⟨_, rfl⟩
  rw [← hp] at H0 ⊢; rw [← hq] at H1 ⊢
  clear hp hq
  by_cases c : p = 0
  · rw [if_pos c]
    subst c
    go_enter Tryz.func26, Tryz.ntmps26
    go_wp2_with (go_at_call 53; (first | with_reducible refine (H0.out _).mono ?_ | with_reducible refine (H1.out _).mono ?_); rintro _ w' ⟨rfl, rfl⟩)
    go_ret
    exact ⟨rfl, ba (ba (Below.refl _ _) _) _⟩
  · rw [if_neg c]
    have t : (p != 0) = true := by simpa using c
    clear c
    go_enter Tryz.func26, Tryz.ntmps26
    go_wp2_with (go_at_call 53; (first | with_reducible refine (H0.out _).mono ?_ | with_reducible refine (H1.out _).mono ?_); rintro _ w' ⟨rfl, rfl⟩)
    go_ret
    exact ⟨rfl, ba (ba (Below.refl _ _) _) _⟩

/-! ## Results that are NaN -/
theorem sum_nan {x y : Nat} (hx : x < 18446744073709551616) (hy : y < 18446744073709551616) (h : nan x = true ∨ nan y = true) : floatBits .add .f64 x y = none ∧ floatBits .sub .f64 x y = none ∧ floatBits .quo .f64 x y = none := by
  have key : (Ieee.double.read x).isNaN = true ∨ (Ieee.double.read y).isNaN = true := by
    rcases h with h | h
    · left
      obtain ⟨s, t, hr⟩ := read_nan (b := x) (by unfold nan at h; simpa using h)
      rw [hr]; rfl
    · right
      obtain ⟨s, t, hr⟩ := read_nan (b := y) (by unfold nan at h; simpa using h)
      rw [hr]; rfl
  refine ⟨?_, ?_, ?_⟩
  · show ((Ieee.double.read x).sum (Ieee.double.read y)).map Ieee.double.write = none
    revert key
    generalize Ieee.double.read x = a
    generalize Ieee.double.read y = b
    intro key
    cases a <;> cases b <;> first | rfl | (exfalso; rcases key with k | k <;> cases k; done)
  · show ((Ieee.double.read x).sum (Ieee.double.read y).opposite).map Ieee.double.write = none
    revert key
    generalize Ieee.double.read x = a
    generalize Ieee.double.read y = b
    intro key
    cases a <;> cases b <;> first | rfl | (exfalso; rcases key with k | k <;> cases k; done)
  · show ((Ieee.double.read x).quotient 54 (Ieee.double.read y)).map Ieee.double.write = none
    revert key
    generalize Ieee.double.read x = a
    generalize Ieee.double.read y = b
    intro key
    cases a <;> cases b <;> first | rfl | (exfalso; rcases key with k | k <;> cases k; done)

theorem run_none {op : BinOp} {x y : Nat} (hop : op = .add ∨ op = .sub ∨ op = .quo) (h : floatBits op .f64 x y = none) (w : World) :
    ∃ z, z < 18446744073709551616 ∧ nan z = true ∧ (binOp op 27 (.float .f64 x) (.float .f64 y)).run Tryz.prog w = .ok (.float .f64 z) w.drew := by
  have hcut : ∀ t, (Question.nanBits .f64 x y).cut t < 18446744073709551616 ∧ nan ((Question.nanBits .f64 x y).cut t) = true := by
    intro t
    have e : (Question.nanBits .f64 x y).cut t = (t % 2) * 9223372036854775808 + 9218868437227405312 + 1 + (t / 2) % 4503599627370495 := rfl
    rw [e]
    unfold nan
    rw [decide_eq_true_eq]
    have h2 : (t / 2) % 4503599627370495 < 4503599627370495 := Nat.mod_lt _ (by decide)
    generalize (t / 2) % 4503599627370495 = z at *
    have h3 : t % 2 = 0 ∨ t % 2 = 1 := by omega
    rcases h3 with h3 | h3 <;> rw [h3] <;> omega
  refine ⟨_, (hcut (w.tape w.drawn (.nanBits .f64 x y))).1, (hcut (w.tape w.drawn (.nanBits .f64 x y))).2, ?_⟩
  unfold floatBits at h
  rcases hop with rfl | rfl | rfl
  all_goals
    simp only at h
    simp [binOp, Op.floatArith, h, choose, Sem.run]
    intro hf
    exact Bool.noConfusion (show false = true from hf)

/-! ## Width and Middle -/
theorem width_nan (x y : Nat) (e : Bool) (w : World) (hx : x < 18446744073709551616) (hy : y < 18446744073709551616) (hn : nan x = true ∨ nan y = true) :
    Calls Tryz.prog 17 #[sv x y e] w fun r w' => (∃ z, z < 18446744073709551616 ∧ nan z = true ∧ r = .returned (.float .f64 z)) ∧ Below w.heap.size w w' := by
  have HI := Lib.hid (fun w => isInf0_any x w hx)
  have hne : (FloatKind.f64.format.order x y == some Ordering.eq) = false := by rw [f_nan hx hy hn]; rfl
  have HN := run_none (op := .sub) (x := y) (y := x) (.inr (.inl rfl)) (sum_nan hy hx hn.symm).2.1
  clear hx hy hn
  unfold sv
  obtain ⟨b, hb⟩ : ∃ b, b = decide (x % 9223372036854775808 = 9218868437227405312) := ⟨_, rfl⟩
  rw [← hb] at HI
  clear hb
  obtain ⟨z, z1, z2, z3⟩ := HN (w.alloc (.cells #[.float .f64 x, .float .f64 y, .bool e] 29))
  have HP := Lib.hid (fun w => pos_any z w z1)
  have hz : posW z = z := by
    unfold posW; rw [if_neg]; unfold nan at z2; have := of_decide_eq_true z2; omega
  rw [hz] at HP
  have Z1 := Lib.hid z1; have Z2 := Lib.hid z2
  clear HN z1 z2 hz
  cases b
  all_goals
    go_enter Tryz.func17, Tryz.ntmps17
    go_wp2_with (first | (go_at_call 22; with_reducible refine (HI.out _).mono ?_; rintro _ w' ⟨rfl, rfl⟩) | (go_at_call 45; with_reducible refine (HP.out _).mono ?_; rintro _ w' ⟨rfl, rfl⟩))
    go_ret
    exact ⟨⟨z, Z1.out, Z2.out, rfl⟩, (ba (Below.refl _ _) _).drew⟩

theorem width_same (x y : Nat) (e : Bool) (w : World) (hx : x < 18446744073709551616) (hi : x % 9223372036854775808 = 9218868437227405312) (he : (FloatKind.f64.format.order x y == some Ordering.eq) = true) :
    Calls Tryz.prog 17 #[sv x y e] w fun r w' => r = .returned (.float .f64 0) ∧ Below w.heap.size w w' := by
  have HI := fun w => isInf0_any x w hx
  rw [decide_eq_true hi] at HI
  replace HI := Lib.hid HI
  clear hx hi
  unfold sv
  go_enter Tryz.func17, Tryz.ntmps17
  go_wp2_with (first | (go_at_call 22; with_reducible refine (HI.out _).mono ?_; rintro _ w' ⟨rfl, rfl⟩))
  go_ret
  exact ⟨rfl, ba (Below.refl _ _) _⟩

theorem width_some (x y q : Nat) (e : Bool) (w : World) (hx : x < 18446744073709551616) (hi : (decide (x % 9223372036854775808 = 9218868437227405312) && (FloatKind.f64.format.order x y == some Ordering.eq)) = false) (hq : floatBits .sub .f64 y x = some q) (hq2 : q < 18446744073709551616) :
    Calls Tryz.prog 17 #[sv x y e] w fun r w' => r = .returned (.float .f64 (posW q)) ∧ Below w.heap.size w w' := by
  have HI := fun w => isInf0_any x w hx
  have hsub := fun w => run_float_arith (P := Tryz.prog) w .sub 27 .f64 y x q hq
  have HP := Lib.hid (fun w => pos_any q w hq2)
  obtain ⟨b, hb⟩ : ∃ b, b = decide (x % 9223372036854775808 = 9218868437227405312) := ⟨_, rfl⟩
  rw [← hb] at HI hi
  replace HI := Lib.hid HI
  clear hx hq hb hq2
  unfold sv
  cases b
  · clear hi
    go_enter Tryz.func17, Tryz.ntmps17
    go_wp2_with (first | (go_at_call 22; with_reducible refine (HI.out _).mono ?_; rintro _ w' ⟨rfl, rfl⟩) | (go_at_call 45; with_reducible refine (HP.out _).mono ?_; rintro _ w' ⟨rfl, rfl⟩))
    go_ret
    exact ⟨rfl, ba (Below.refl _ _) _⟩
  · rw [Bool.true_and] at hi
    go_enter Tryz.func17, Tryz.ntmps17
    go_wp2_with (first | (go_at_call 22; with_reducible refine (HI.out _).mono ?_; rintro _ w' ⟨rfl, rfl⟩) | (go_at_call 45; with_reducible refine (HP.out _).mono ?_; rintro _ w' ⟨rfl, rfl⟩))
    go_ret
    exact ⟨rfl, ba (Below.refl _ _) _⟩

def two : Nat := 4611686018427387904
theorem mid_opp (x y : Nat) (e : Bool) (w : World) (h : (x = 18442240474082181120 ∧ y = 9218868437227405312) ∨ (x = 9218868437227405312 ∧ y = 18442240474082181120)) :
    Calls Tryz.prog 19 #[sv x y e] w fun r w' => r = .returned (.float .f64 0) ∧ Below w.heap.size w w' := by
  have HP1 := Lib.hid (fun w => isInfP_any 9218868437227405312 w (by decide))
  have HP2 := Lib.hid (fun w => isInfP_any 18442240474082181120 w (by decide))
  have HN1 := Lib.hid (fun w => isInfN_any 9218868437227405312 w (by decide))
  have HN2 := Lib.hid (fun w => isInfN_any 18442240474082181120 w (by decide))
  simp only [decide_true] at HP1 HN2
  rw [show decide ((18442240474082181120 : Nat) = 9218868437227405312) = false by decide] at HP2
  rw [show decide ((9218868437227405312 : Nat) = 18442240474082181120) = false by decide] at HN1
  unfold sv
  rcases h with ⟨rfl, rfl⟩ | ⟨rfl, rfl⟩
  all_goals
    go_enter Tryz.func19, Tryz.ntmps19
    go_wp2_with (go_at_call 22; (first | with_reducible refine (HP1.out _).mono ?_ | with_reducible refine (HP2.out _).mono ?_ | with_reducible refine (HN1.out _).mono ?_ | with_reducible refine (HN2.out _).mono ?_); rintro _ w' ⟨rfl, rfl⟩)
    go_ret
    exact ⟨rfl, ba (Below.refl _ _) _⟩

/-- Neither NaN nor infinities of both signs. -/
theorem mid_some (x y p1 p2 q : Nat) (e : Bool) (w : World) (hx : x < 18446744073709551616) (hy : y < 18446744073709551616)
    (ho : ¬ ((x = 18442240474082181120 ∧ y = 9218868437227405312) ∨ (x = 9218868437227405312 ∧ y = 18442240474082181120)))
    (h1 : floatBits .quo .f64 x 4611686018427387904 = some p1) (h2 : floatBits .quo .f64 y 4611686018427387904 = some p2) (hq : floatBits .add .f64 p1 p2 = some q) (hq2 : q < 18446744073709551616) :
    Calls Tryz.prog 19 #[sv x y e] w fun r w' => r = .returned (.float .f64 (posW q)) ∧ Below w.heap.size w w' := by
  have hd1 := fun w => run_float_arith (P := Tryz.prog) w .quo 27 .f64 x _ p1 h1
  have hd2 := fun w => run_float_arith (P := Tryz.prog) w .quo 27 .f64 y _ p2 h2
  have hd3 := fun w => run_float_arith (P := Tryz.prog) w .add 27 .f64 p1 p2 q hq
  have HP := Lib.hid (fun w => pos_any q w hq2)
  have HXP := fun w => isInfP_any x w hx
  have HXN := fun w => isInfN_any x w hx
  have HYP := fun w => isInfP_any y w hy
  have HYN := fun w => isInfN_any y w hy
  obtain ⟨a, ha⟩ : ∃ a, a = decide (x = 9218868437227405312) := ⟨_, rfl⟩
  obtain ⟨b, hb⟩ : ∃ a, a = decide (x = 18442240474082181120) := ⟨_, rfl⟩
  obtain ⟨c, hc⟩ : ∃ a, a = decide (y = 9218868437227405312) := ⟨_, rfl⟩
  obtain ⟨d, hd⟩ : ∃ a, a = decide (y = 18442240474082181120) := ⟨_, rfl⟩
  rw [← ha] at HXP; rw [← hb] at HXN; rw [← hc] at HYP; rw [← hd] at HYN
  have hno : (b && c) = false ∧ (a && d) = false := by
    rw [ha, hb, hc, hd]
    constructor
    · by_cases k1 : x = 18442240474082181120 <;> by_cases k2 : y = 9218868437227405312 <;> simp [k1, k2]
      exact ho (.inl ⟨k1, k2⟩)
    · by_cases k1 : x = 9218868437227405312 <;> by_cases k2 : y = 18442240474082181120 <;> simp [k1, k2]
      exact ho (.inr ⟨k1, k2⟩)
  replace HXP := Lib.hid HXP; replace HXN := Lib.hid HXN; replace HYP := Lib.hid HYP; replace HYN := Lib.hid HYN
  obtain ⟨no1, no2⟩ := hno
  clear hx hy ho h1 h2 hq hq2 ha hb hc hd
  unfold sv
  cases a <;> cases b <;> cases c <;> cases d <;> first | (exact absurd no1 (by decide)) | (exact absurd no2 (by decide)) | skip
  all_goals
    clear no1 no2
    go_enter Tryz.func19, Tryz.ntmps19
    go_wp2_with (first | (go_at_call 22; (first | with_reducible refine (HXP.out _).mono ?_ | with_reducible refine (HXN.out _).mono ?_ | with_reducible refine (HYP.out _).mono ?_ | with_reducible refine (HYN.out _).mono ?_); rintro _ w' ⟨rfl, rfl⟩) | (go_at_call 45; with_reducible refine (HP.out _).mono ?_; rintro _ w' ⟨rfl, rfl⟩))
    go_ret
    exact ⟨rfl, ba (Below.refl _ _) _⟩
end Ax
end Go.Proofs.YtmebmfgmopdieaaGreatDoor
