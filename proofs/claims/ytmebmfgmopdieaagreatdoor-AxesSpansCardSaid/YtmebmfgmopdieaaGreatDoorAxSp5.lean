/- THE LAW AxesSpans: its classes of numbers, and the walk, put together. -/
import Derived.Test.YtmebmfgmopdieaaGreatDoorAxSp4
set_option linter.unusedSimpArgs false
set_option linter.unusedVariables false
namespace Go.Proofs.YtmebmfgmopdieaaGreatDoor
open Go.RowKit
namespace Ax
open Fl

theorem posW_big {z : Nat} (h : z % 9223372036854775808 ≠ 0) : posW z = z := by unfold posW; rw [if_neg h]

theorem spans_any (x0 x1 x2 x3 : Nat) (w : World) (h0 : x0 < 18446744073709551616) (h1 : x1 < 18446744073709551616) (h2 : x2 < 18446744073709551616) (h3 : x3 < 18446744073709551616)
    (HL : ∀ W, Below w.heap.size w W → Calls Tryz.prog 9 #[] W fun r w' => r = .returned (.bool true) ∧ Below W.heap.size W w') :
    Calls Tryz.prog 6 #[av x0 x1 x2 x3] w fun r w' => r = .returned (.bool true) ∧ Below w.heap.size w w' := by
  by_cases hn : nan x0 = true ∨ nan x1 = true
  · exact sp_walk x0 x1 x2 x3 w (fun z => z < 18446744073709551616 ∧ nan z = true) (fun z => z < 18446744073709551616 ∧ nan z = true) h0 h1 h2 h3 (.inl ⟨hn, fun _ h => h, fun _ h => h⟩) HL
      (fun W => (width_nan x0 x1 false W h0 h1 hn).mono fun r w' ⟨⟨z, a, b, c⟩, d⟩ => ⟨⟨z, ⟨a, b⟩, c⟩, d⟩)
      (fun W => (mid_nan x0 x1 false W h0 h1 hn).mono fun r w' ⟨⟨z, a, b, c⟩, d⟩ => ⟨⟨z, ⟨a, b⟩, c⟩, d⟩)
  · have n0 : nan x0 = false := by cases h : nan x0; rfl; exact absurd (.inl h) hn
    have n1 : nan x1 = false := by cases h : nan x1; rfl; exact absurd (.inr h) hn
    by_cases hc : (decide (x0 % 9223372036854775808 = 9218868437227405312) && decide (x1 % 9223372036854775808 = 9218868437227405312)) = false
    · obtain ⟨q, p0, p1, h, a1, a2, a3, a4, a5, a6, a7, a8, a9⟩ := sp_c h0 h1 n0 n1 hc
      have no : ¬ ((x0 = 18442240474082181120 ∧ x1 = 9218868437227405312) ∨ (x0 = 9218868437227405312 ∧ x1 = 18442240474082181120)) := by
        rintro (⟨rfl, rfl⟩ | ⟨rfl, rfl⟩) <;> exact absurd hc (by decide)
      refine sp_walk x0 x1 x2 x3 w (fun z => z = posW q) (fun z => z = posW h) h0 h1 h2 h3 (.inr (.inr (.inr ⟨n0, n1, hc, q, p0, p1, h, a1, a2, a3, a4, a5, a6, a7, a8, a9, fun _ h => h, fun _ h => h⟩))) HL ?_ ?_
      · intro W
        have hw : (decide (x0 % 9223372036854775808 = 9218868437227405312) && (FloatKind.f64.format.order x0 x1 == some Ordering.eq)) = false := by
          cases c0 : decide (x0 % 9223372036854775808 = 9218868437227405312)
          · rfl
          · rw [c0, Bool.true_and] at hc
            have c0 := of_decide_eq_true c0
            have c1 := of_decide_eq_false hc
            rw [Bool.true_and, eq_iff h0 h1 n0 n1, decide_eq_false_iff_not, vl_sg h0, vl_sg h1, c0]
            intro hv
            have m1 : mg (x1 % 9223372036854775808) = mg 9218868437227405312 := by
              have p1 : 0 < mg 9218868437227405312 := by have := mg_lt.2 (show 0 < 9218868437227405312 by decide); omega
              cases e0 : sg x0 <;> cases e1 : sg x1 <;> rw [e0, e1] at hv <;> simp only [Bool.false_eq_true, if_true, if_false] at hv <;> omega
            exact c1 (mg_inj m1)
        exact (width_some x0 x1 q false W h0 hw a1 a5).mono fun r w' ⟨c, d⟩ => ⟨⟨_, rfl, c⟩, d⟩
      · intro W
        exact (mid_some x0 x1 p0 p1 h false W h0 h1 no a2 a3 a4 a6).mono fun r w' ⟨c, d⟩ => ⟨⟨_, rfl, c⟩, d⟩
    · have hc' : x0 % 9223372036854775808 = 9218868437227405312 ∧ x1 % 9223372036854775808 = 9218868437227405312 := by
        simpa using hc
      have g0 : x0 = 9218868437227405312 ∨ x0 = 18442240474082181120 := by omega
      have g1 : x1 = 9218868437227405312 ∨ x1 = 18442240474082181120 := by omega
      have P := half_inf.1
      have N := half_inf.2
      rcases g0 with rfl | rfl <;> rcases g1 with rfl | rfl
      · refine sp_walk _ _ x2 x3 w (fun z => z = 0) (fun z => z = 9218868437227405312) h0 h1 h2 h3 (.inr (.inl ⟨rfl, .inl rfl, fun _ h => h, fun _ h => h⟩)) HL ?_ ?_
        · intro W; exact (width_same _ _ false W h0 (by decide) (by decide +kernel)).mono fun r w' ⟨c, d⟩ => ⟨⟨_, rfl, c⟩, d⟩
        · intro W
          have := mid_some _ _ _ _ _ false W h0 h1 (by decide) P P sp_a.2.1 (by decide)
          rw [posW_big (by decide)] at this
          exact this.mono fun r w' ⟨c, d⟩ => ⟨⟨_, rfl, c⟩, d⟩
      · refine sp_walk _ _ x2 x3 w (fun z => z = 18442240474082181120) (fun z => z = 0) h0 h1 h2 h3 (.inr (.inr (.inl ⟨.inr ⟨rfl, rfl⟩, fun _ h => h, fun _ h => h⟩))) HL ?_ ?_
        · intro W
          have := width_some _ _ 18442240474082181120 false W h0 (by decide +kernel) sp_b.2.2.1 (by decide)
          rw [posW_big (by decide)] at this
          exact this.mono fun r w' ⟨c, d⟩ => ⟨⟨_, rfl, c⟩, d⟩
        · intro W; exact (mid_opp _ _ false W (.inr ⟨rfl, rfl⟩)).mono fun r w' ⟨c, d⟩ => ⟨⟨_, rfl, c⟩, d⟩
      · refine sp_walk _ _ x2 x3 w (fun z => z = 9218868437227405312) (fun z => z = 0) h0 h1 h2 h3 (.inr (.inr (.inl ⟨.inl ⟨rfl, rfl⟩, fun _ h => h, fun _ h => h⟩))) HL ?_ ?_
        · intro W
          have := width_some _ _ 9218868437227405312 false W h0 (by decide +kernel) sp_b.1 (by decide)
          rw [posW_big (by decide)] at this
          exact this.mono fun r w' ⟨c, d⟩ => ⟨⟨_, rfl, c⟩, d⟩
        · intro W; exact (mid_opp _ _ false W (.inl ⟨rfl, rfl⟩)).mono fun r w' ⟨c, d⟩ => ⟨⟨_, rfl, c⟩, d⟩
      · refine sp_walk _ _ x2 x3 w (fun z => z = 0) (fun z => z = 18442240474082181120) h0 h1 h2 h3 (.inr (.inl ⟨rfl, .inr rfl, fun _ h => h, fun _ h => h⟩)) HL ?_ ?_
        · intro W; exact (width_same _ _ false W h0 (by decide) (by decide +kernel)).mono fun r w' ⟨c, d⟩ => ⟨⟨_, rfl, c⟩, d⟩
        · intro W
          have := mid_some _ _ _ _ _ false W h0 h1 (by decide) N N sp_a.2.2.2 (by decide)
          rw [posW_big (by decide)] at this
          exact this.mono fun r w' ⟨c, d⟩ => ⟨⟨_, rfl, c⟩, d⟩
end Ax
end Go.Proofs.YtmebmfgmopdieaaGreatDoor
