/- PLAIN LAW: what AxesSpans asks of the difference and the halves of two numbers that are not NaN. -/
import Derived.Test.YtmebmfgmopdieaaGreatDoorAxSp3
set_option linter.unusedSimpArgs false
set_option linter.unusedVariables false
namespace Go.Proofs.YtmebmfgmopdieaaGreatDoor
open Go.RowKit
namespace Ax
open Fl

def bigB (x : Nat) : Bool := FloatKind.f64.format.order (x % 9223372036854775808) 118622047889322841 == some Ordering.gt

theorem rd_p : Ieee.double.read 9218868437227405312 = .infinity false := by decide +kernel
theorem rd_n : Ieee.double.read 18442240474082181120 = .infinity true := by decide +kernel
theorem wr_p : Ieee.double.write (.infinity false) = 9218868437227405312 := by decide +kernel
theorem wr_n : Ieee.double.write (.infinity true) = 18442240474082181120 := by decide +kernel

theorem add_fi {x : Nat} (hx : x < 18446744073709551616) (fx : fin x = true) : floatBits .add .f64 x 9218868437227405312 = some 9218868437227405312 ∧ floatBits .add .f64 x 18442240474082181120 = some 18442240474082181120 := by
  obtain ⟨m, p, hr, hv, _⟩ := read_fin hx fx
  constructor
  · show ((Ieee.double.read x).sum (Ieee.double.read 9218868437227405312)).map Ieee.double.write = _
    rw [hr, rd_p]; show some (Ieee.double.write (.infinity false)) = _; rw [wr_p]
  · show ((Ieee.double.read x).sum (Ieee.double.read 18442240474082181120)).map Ieee.double.write = _
    rw [hr, rd_n]; show some (Ieee.double.write (.infinity true)) = _; rw [wr_n]
theorem add_if {x : Nat} (hx : x < 18446744073709551616) (fx : fin x = true) : floatBits .add .f64 9218868437227405312 x = some 9218868437227405312 ∧ floatBits .add .f64 18442240474082181120 x = some 18442240474082181120 := by
  obtain ⟨m, p, hr, hv, _⟩ := read_fin hx fx
  constructor
  · show ((Ieee.double.read 9218868437227405312).sum (Ieee.double.read x)).map Ieee.double.write = _
    rw [hr, rd_p]; show some (Ieee.double.write (.infinity false)) = _; rw [wr_p]
  · show ((Ieee.double.read 18442240474082181120).sum (Ieee.double.read x)).map Ieee.double.write = _
    rw [hr, rd_n]; show some (Ieee.double.write (.infinity true)) = _; rw [wr_n]
theorem sub_if {x : Nat} (hx : x < 18446744073709551616) (fx : fin x = true) : floatBits .sub .f64 9218868437227405312 x = some 9218868437227405312 ∧ floatBits .sub .f64 18442240474082181120 x = some 18442240474082181120 := by
  obtain ⟨m, p, hr, hv, _⟩ := read_fin hx fx
  constructor
  · show ((Ieee.double.read 9218868437227405312).sum (Ieee.double.read x).opposite).map Ieee.double.write = _
    rw [hr, rd_p]; show some (Ieee.double.write (.infinity false)) = _; rw [wr_p]
  · show ((Ieee.double.read 18442240474082181120).sum (Ieee.double.read x).opposite).map Ieee.double.write = _
    rw [hr, rd_n]; show some (Ieee.double.write (.infinity true)) = _; rw [wr_n]
theorem sub_fi {x : Nat} (hx : x < 18446744073709551616) (fx : fin x = true) : floatBits .sub .f64 x 9218868437227405312 = some 18442240474082181120 ∧ floatBits .sub .f64 x 18442240474082181120 = some 9218868437227405312 := by
  obtain ⟨m, p, hr, hv, _⟩ := read_fin hx fx
  constructor
  · show ((Ieee.double.read x).sum (Ieee.double.read 9218868437227405312).opposite).map Ieee.double.write = _
    rw [hr, rd_p]; show some (Ieee.double.write (.infinity true)) = _; rw [wr_n]
  · show ((Ieee.double.read x).sum (Ieee.double.read 18442240474082181120).opposite).map Ieee.double.write = _
    rw [hr, rd_n]; show some (Ieee.double.write (.infinity false)) = _; rw [wr_p]

theorem leB_iff {x y : Nat} (hx : x < 18446744073709551616) (hy : y < 18446744073709551616) (n0 : nan x = false) (n1 : nan y = false) : leB x y = decide (vl x ≤ vl y) := by
  unfold leB
  rw [lt_iff hx hy n0 n1, eq_iff hx hy n0 n1, Bool.eq_iff_iff]
  simp
  omega

theorem big_le {x : Nat} (hx : x < 18446744073709551616) (h : bigB x = true) (hn : nan x = false) : 9007199254740992 ≤ x % 9223372036854775808 := by
  by_cases c : 9007199254740992 ≤ x % 9223372036854775808
  · exact c
  · exfalso
    unfold bigB at h
    have hn2 : nan (x % 9223372036854775808) = false := by unfold nan at hn ⊢; rw [Nat.mod_mod]; exact hn
    rw [gt_iff (by omega) (by decide) hn2 (by decide)] at h
    have h := of_decide_eq_true h
    have e1 : vl 118622047889322841 = (mg 118622047889322841 : Int) := by rw [vl_sg (by decide), show sg 118622047889322841 = false by decide]; rfl
    have e2 : vl (x % 9223372036854775808) = (mg (x % 9223372036854775808) : Int) := by
      rw [vl_sg (by omega), show sg (x % 9223372036854775808) = false by unfold sg; rw [decide_eq_false_iff_not]; omega, Nat.mod_mod]; rfl
    rw [e1, e2] at h
    have := mg_le.2 (show x % 9223372036854775808 ≤ 118622047889322841 by omega)
    omega

theorem vl_posW {q : Nat} (hq : q < 18446744073709551616) : vl (posW q) = vl q := by
  unfold posW
  by_cases c : q % 9223372036854775808 = 0
  · rw [if_pos c, vl_sg hq, vl_sg (by decide), c, show sg 0 = false by decide, show 0 % 9223372036854775808 = 0 by decide, mg_zero]
    cases sg q <;> rfl
  · rw [if_neg c]
theorem posW_lt {q : Nat} (hq : q < 18446744073709551616) : posW q < 18446744073709551616 := by unfold posW; split <;> omega
theorem posW_nan {q : Nat} (hn : nan q = false) : nan (posW q) = false := by
  unfold posW; split
  · decide
  · exact hn

/-- What holds of the number that Width or Middle returns, against the sum itself. -/
theorem pos_facts {q : Nat} (hq : q < 18446744073709551616) (hn : nan q = false) :
    (FloatKind.f64.format.order (posW q) q == some Ordering.eq) = true ∧ ((FloatKind.f64.format.order (posW q) 0 == some Ordering.eq) && sg (posW q)) = false := by
  constructor
  · rw [eq_iff (posW_lt hq) hq (posW_nan hn) hn, vl_posW hq]; simp
  · rw [eq_zero (posW_lt hq)]
    unfold posW
    by_cases c : q % 9223372036854775808 = 0
    · rw [if_pos c]; decide
    · rw [if_neg c, decide_eq_false c]; rfl

theorem sp_c {x0 x1 : Nat} (h0 : x0 < 18446744073709551616) (h1 : x1 < 18446744073709551616) (n0 : nan x0 = false) (n1 : nan x1 = false)
    (hc : (decide (x0 % 9223372036854775808 = 9218868437227405312) && decide (x1 % 9223372036854775808 = 9218868437227405312)) = false) :
    ∃ q p0 p1 h, floatBits .sub .f64 x1 x0 = some q ∧ floatBits .quo .f64 x0 4611686018427387904 = some p0 ∧ floatBits .quo .f64 x1 4611686018427387904 = some p1 ∧ floatBits .add .f64 p0 p1 = some h ∧
      q < 18446744073709551616 ∧ h < 18446744073709551616 ∧ nan q = false ∧ nan h = false ∧ (leB x0 x1 = true → bigB x0 = true → bigB x1 = true → vl x0 ≤ vl h ∧ vl h ≤ vl x1) := by
  obtain ⟨p0, q0, l0, f0, ip0, in0⟩ := half_some h0 n0
  obtain ⟨p1, q1, l1, f1, ip1, in1⟩ := half_some h1 n1
  have hle : leB x0 x1 = true → vl x0 ≤ vl x1 := fun h => by rw [leB_iff h0 h1 n0 n1] at h; exact of_decide_eq_true h
  rcases inf_cases h0 n0 with c0 | rfl | rfl
  · obtain ⟨fp0, t0⟩ := f0 c0
    rcases inf_cases h1 n1 with c1 | rfl | rfl
    · obtain ⟨fp1, t1⟩ := f1 c1
      refine ⟨_, p0, p1, _, sub_val h1 h0 c1 c0, q0, q1, add_val l0 l1 fp0 fp1, rndW_lt _ _, rndW_lt _ _, rndW_nan _ _, rndW_nan _ _, fun a b c => ?_⟩
      have a := hle a
      have b := t0 (big_le h0 b n0); have c := t1 (big_le h1 c n1)
      have := rnd_between (sg p0 && sg p1) h0 h1 c0 c1 (s := vl p0 + vl p1) (by omega) (by omega)
      exact ⟨this.1, this.2.1⟩
    · obtain rfl := ip1 rfl
      exact ⟨_, p0, _, _, (sub_if h0 c0).1, q0, q1, (add_fi l0 fp0).1, by decide, by decide, by decide, by decide, fun a _ _ => ⟨hle a, Int.le_refl _⟩⟩
    · obtain rfl := in1 rfl
      exact ⟨_, p0, _, _, (sub_if h0 c0).2, q0, q1, (add_fi l0 fp0).2, by decide, by decide, by decide, by decide, fun a _ _ => ⟨hle a, Int.le_refl _⟩⟩
  · obtain rfl := ip0 rfl
    rcases inf_cases h1 n1 with c1 | rfl | rfl
    · obtain ⟨fp1, t1⟩ := f1 c1
      exact ⟨_, _, p1, _, (sub_fi h1 c1).1, q0, q1, (add_if l1 fp1).1, by decide, by decide, by decide, by decide, fun a _ _ => ⟨Int.le_refl _, hle a⟩⟩
    · exact absurd hc (by decide)
    · exact absurd hc (by decide)
  · obtain rfl := in0 rfl
    rcases inf_cases h1 n1 with c1 | rfl | rfl
    · obtain ⟨fp1, t1⟩ := f1 c1
      exact ⟨_, _, p1, _, (sub_fi h1 c1).2, q0, q1, (add_if l1 fp1).2, by decide, by decide, by decide, by decide, fun a _ _ => ⟨Int.le_refl _, hle a⟩⟩
    · exact absurd hc (by decide)
    · exact absurd hc (by decide)

/-- Infinities alike. -/
theorem sp_a : floatBits .sub .f64 9218868437227405312 9218868437227405312 = none ∧ floatBits .add .f64 9218868437227405312 9218868437227405312 = some 9218868437227405312 ∧
    floatBits .sub .f64 18442240474082181120 18442240474082181120 = none ∧ floatBits .add .f64 18442240474082181120 18442240474082181120 = some 18442240474082181120 := by decide +kernel
/-- Opposite infinities. -/
theorem sp_b : floatBits .sub .f64 9218868437227405312 18442240474082181120 = some 9218868437227405312 ∧ floatBits .add .f64 18442240474082181120 9218868437227405312 = none ∧
    floatBits .sub .f64 18442240474082181120 9218868437227405312 = some 18442240474082181120 ∧ floatBits .add .f64 9218868437227405312 18442240474082181120 = none := by decide +kernel

/-- The last test fails. -/
theorem last_test {x0 x1 h : Nat} (h0 : x0 < 18446744073709551616) (h1 : x1 < 18446744073709551616) (hh : h < 18446744073709551616) (n0 : nan x0 = false) (n1 : nan x1 = false) (nh : nan h = false)
    (H : leB x0 x1 = true → bigB x0 = true → bigB x1 = true → vl x0 ≤ vl h ∧ vl h ≤ vl x1) :
    (leB x0 x1 && ((FloatKind.f64.format.order (posW h) x0 == some Ordering.lt) || (FloatKind.f64.format.order (posW h) x1 == some Ordering.gt)) && bigB x0 && bigB x1) = false := by
  rw [lt_iff (posW_lt hh) h0 (posW_nan nh) n0, gt_iff (posW_lt hh) h1 (posW_nan nh) n1, vl_posW hh]
  cases a : leB x0 x1
  · rfl
  · cases b : bigB x0
    · simp
    · cases c : bigB x1
      · simp
      · obtain ⟨i, j⟩ := H a b c
        simp
        omega

/-- The classes of two numbers, and what Width and Middle yield of them. -/
def SpCls (x0 x1 : Nat) (Pw Pm : Nat → Prop) : Prop :=
  ((nan x0 = true ∨ nan x1 = true) ∧ (∀ z, Pw z → z < 18446744073709551616 ∧ nan z = true) ∧ (∀ z, Pm z → z < 18446744073709551616 ∧ nan z = true)) ∨
  (x0 = x1 ∧ (x0 = 9218868437227405312 ∨ x0 = 18442240474082181120) ∧ (∀ z, Pw z → z = 0) ∧ (∀ z, Pm z → z = x0)) ∨
  (((x0 = 18442240474082181120 ∧ x1 = 9218868437227405312) ∨ (x0 = 9218868437227405312 ∧ x1 = 18442240474082181120)) ∧ (∀ z, Pw z → z = x1) ∧ (∀ z, Pm z → z = 0)) ∨
  (nan x0 = false ∧ nan x1 = false ∧ (decide (x0 % 9223372036854775808 = 9218868437227405312) && decide (x1 % 9223372036854775808 = 9218868437227405312)) = false ∧
    ∃ q p0 p1 h, floatBits .sub .f64 x1 x0 = some q ∧ floatBits .quo .f64 x0 4611686018427387904 = some p0 ∧ floatBits .quo .f64 x1 4611686018427387904 = some p1 ∧ floatBits .add .f64 p0 p1 = some h ∧
      q < 18446744073709551616 ∧ h < 18446744073709551616 ∧ nan q = false ∧ nan h = false ∧ (leB x0 x1 = true → bigB x0 = true → bigB x1 = true → vl x0 ≤ vl h ∧ vl h ≤ vl x1) ∧ (∀ z, Pw z → z = posW q) ∧ (∀ z, Pm z → z = posW h))

theorem neq_of_eq {x y : Nat} (h : (FloatKind.f64.format.order x y == some Ordering.eq) = true) : (FloatKind.f64.format.order x y != some Ordering.eq) = false := by
  simp only [bne, h]; rfl
theorem neq_of_ne {x y : Nat} (h : (FloatKind.f64.format.order x y == some Ordering.eq) = false) : (FloatKind.f64.format.order x y != some Ordering.eq) = true := by
  simp only [bne, h]; rfl
theorem eq_self_nan {x : Nat} (hx : x < 18446744073709551616) (hn : nan x = true) : (FloatKind.f64.format.order x x == some Ordering.eq) = false := by
  have := ne_self hx
  rw [hn] at this
  simpa [bne] using this

/-- An operation without an answer, as a function of the world. -/
theorem none_fun {op : BinOp} {x y : Nat} (hop : op = .add ∨ op = .sub ∨ op = .quo) (h : floatBits op .f64 x y = none) :
    ∃ zf : World → Nat, ∀ w : World, (binOp op 27 (.float .f64 x) (.float .f64 y)).run Tryz.prog w = .ok (.float .f64 (zf w)) w.drew :=
  ⟨fun w => Classical.choose (run_none hop h w), fun w => (Classical.choose_spec (run_none hop h w)).2.2⟩
end Ax
end Go.Proofs.YtmebmfgmopdieaaGreatDoor
