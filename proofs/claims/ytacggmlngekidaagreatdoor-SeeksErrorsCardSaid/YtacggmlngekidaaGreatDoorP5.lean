import Derived.Test.YtacggmlngekidaaGreatDoorP2
import Derived.Test.YtacggmlngekidaaGreatDoorP3
import Derived.Test.YtacggmlngekidaaGreatDoorP4
import Derived.Deep.MidRow
import Derived.Deep.CutBlock
import Derived.ChangeKeysEq
set_option linter.unusedSimpArgs false
set_option linter.unusedVariables false
set_option maxRecDepth 1000000
set_option maxHeartbeats 8000000
set_option linter.unusedSectionVars false
namespace Go.Proofs.YtacggmlngekidaaGreatDoor
section
open Go.RowKit Go.Lib
namespace Sk
open Un (ba bt ri rb)
open Bk (Rw)
def l4 (a lo b hi : Int) : List Value := [.int .i8 a, .int .i64 lo, .int .i8 b, .int .i64 hi]
theorem rJ {p : Nat} {a lo b hi : Int} {w W : World} (h : Rw p (l4 a lo b hi) w W) : W.cell? ⟨p, 0, none⟩ = some (.int .i8 a) /\ W.cell? ⟨p, 1, none⟩ = some (.int .i64 lo) /\ W.cell? ⟨p, 2, none⟩ = some (.int .i8 b) /\ W.cell? ⟨p, 3, none⟩ = some (.int .i64 hi) /\ Below w.heap.size w W :=
 ⟨h.cell 0 _ rfl, h.cell 1 _ rfl, h.cell 2 _ rfl, h.cell 3 _ rfl, h.below⟩
theorem VI {a lo b hi x y c : Int} (hx : x = FV a lo) (hy : y = FV b hi) (hc : c = bG a lo b hi) :
 (x = 0 \/ x = 5) /\ (y = 0 \/ y = 5) /\ (x = 0 -> a = 0 \/ a = 1 \/ a = -1) /\ (y = 0 -> b = 0 \/ b = 1 \/ b = -1) /\ (c = -1 \/ c = 0 \/ c = 1) /\ cZ a lo b hi = if x ≠ 0 \/ y ≠ 0 then 5 else if a = 1 \/ b = -1 then 4 else if 0 < c then 12 else 0 := by
 subst hx hy hc
 refine ⟨?_, ?_, ?_, ?_, ?_, ?_⟩
 . unfold FV; split <;> simp
 . unfold FV; split <;> simp
 . unfold FV endOk; simp; omega
 . unfold FV endOk; simp; omega
 . unfold bG; (repeat' split) <;> simp
 . unfold cZ FV
   cases endOk a lo <;> cases endOk b hi <;> simp
theorem kP (a lo b hi : Int) (w : World) :
 Calls Tryz.prog 49 #[r4 a lo b hi] w fun r w' => r = .returned (.int .i64 (cZ a lo b hi)) /\ Below w.heap.size w w' := by
 have hR : Rw w.heap.size (l4 a lo b hi) w _ := Rw.fresh (Below.refl _ _) _ 42
 have C1 := fun w => sK a lo w
 have C2 := fun w => sK b hi w
 have C3 := fun w => gY a lo b hi w
 unfold ev at C1 C2 C3
 obtain ⟨x, hx⟩ : ∃ x, x = FV a lo := ⟨_, rfl⟩
 obtain ⟨y, hy⟩ : ∃ y, y = FV b hi := ⟨_, rfl⟩
 obtain ⟨c, hc⟩ : ∃ c, c = bG a lo b hi := ⟨_, rfl⟩
 obtain ⟨k1, k2, k3, k4, k5, k6⟩ := VI hx hy hc
 rw [<- hx] at C1; rw [<- hy] at C2; rw [<- hc] at C3
 rw [k6]
 clear k6 hx hy hc
 replace C1 := Lib.hid C1; replace C2 := Lib.hid C2; replace C3 := Lib.hid C3
 unfold r4
 unfold l4 at hR
 rcases k1 with rfl | rfl
 case inr =>
  rw [if_pos (.inl (by decide))]
  go_enter Tryz.func49, Tryz.ntmps49
  go_upto_region 1 with (fail)
  generalize World.alloc _ _ = W0 at hR ⊢
  obtain ⟨q0, q1, q2, q3, _⟩ := rJ hR
  go_wp2_with (first
   | (go_at_call 77; with_reducible refine (C1.out _).mono ?_; rintro _ w1 ⟨rfl, hb⟩; replace hR := hR.later hb; clear hb; obtain ⟨q0, q1, q2, q3, _⟩ := rJ hR)
   | (go_at_call 77; with_reducible refine (C2.out _).mono ?_; rintro _ w1 ⟨rfl, hb⟩; replace hR := hR.later hb; clear hb; obtain ⟨q0, q1, q2, q3, _⟩ := rJ hR)
   | (go_at_call 78; with_reducible refine (C3.out _).mono ?_; rintro _ w1 ⟨rfl, hb⟩; replace hR := hR.later hb; clear hb; obtain ⟨q0, q1, q2, q3, _⟩ := rJ hR))
  go_ret
  exact ⟨rfl, hR.below⟩
 rcases k2 with rfl | rfl
 case inr =>
  rw [if_pos (.inr (by decide))]
  go_enter Tryz.func49, Tryz.ntmps49
  go_upto_region 1 with (fail)
  generalize World.alloc _ _ = W0 at hR ⊢
  obtain ⟨q0, q1, q2, q3, _⟩ := rJ hR
  go_wp2_with (first
   | (go_at_call 77; with_reducible refine (C1.out _).mono ?_; rintro _ w1 ⟨rfl, hb⟩; replace hR := hR.later hb; clear hb; obtain ⟨q0, q1, q2, q3, _⟩ := rJ hR)
   | (go_at_call 77; with_reducible refine (C2.out _).mono ?_; rintro _ w1 ⟨rfl, hb⟩; replace hR := hR.later hb; clear hb; obtain ⟨q0, q1, q2, q3, _⟩ := rJ hR)
   | (go_at_call 78; with_reducible refine (C3.out _).mono ?_; rintro _ w1 ⟨rfl, hb⟩; replace hR := hR.later hb; clear hb; obtain ⟨q0, q1, q2, q3, _⟩ := rJ hR))
  go_ret
  exact ⟨rfl, hR.below⟩
 have k3 := k3 rfl; have k4 := k4 rfl
 rw [if_neg (by simp)]
 by_cases h : a = 1 \/ b = -1
 . rw [if_pos h]
   by_cases ha : a = 1
   . subst ha
     clear h k3 k4
     go_enter Tryz.func49, Tryz.ntmps49
     go_upto_region 1 with (fail)
     generalize World.alloc _ _ = W0 at hR ⊢
     obtain ⟨q0, q1, q2, q3, _⟩ := rJ hR
     go_wp2_with (first
      | (go_at_call 77; with_reducible refine (C1.out _).mono ?_; rintro _ w1 ⟨rfl, hb⟩; replace hR := hR.later hb; clear hb; obtain ⟨q0, q1, q2, q3, _⟩ := rJ hR)
      | (go_at_call 77; with_reducible refine (C2.out _).mono ?_; rintro _ w1 ⟨rfl, hb⟩; replace hR := hR.later hb; clear hb; obtain ⟨q0, q1, q2, q3, _⟩ := rJ hR)
      | (go_at_call 78; with_reducible refine (C3.out _).mono ?_; rintro _ w1 ⟨rfl, hb⟩; replace hR := hR.later hb; clear hb; obtain ⟨q0, q1, q2, q3, _⟩ := rJ hR))
     go_ret
     exact ⟨rfl, hR.below⟩
   . have hb1 : b = -1 := by omega
     subst hb1
     have ha2 : a <= 0 := by omega
     clear h k3 k4 ha
     go_enter Tryz.func49, Tryz.ntmps49
     go_upto_region 1 with (fail)
     generalize World.alloc _ _ = W0 at hR ⊢
     obtain ⟨q0, q1, q2, q3, _⟩ := rJ hR
     go_wp2_with (first
      | (go_at_call 77; with_reducible refine (C1.out _).mono ?_; rintro _ w1 ⟨rfl, hb⟩; replace hR := hR.later hb; clear hb; obtain ⟨q0, q1, q2, q3, _⟩ := rJ hR)
      | (go_at_call 77; with_reducible refine (C2.out _).mono ?_; rintro _ w1 ⟨rfl, hb⟩; replace hR := hR.later hb; clear hb; obtain ⟨q0, q1, q2, q3, _⟩ := rJ hR)
      | (go_at_call 78; with_reducible refine (C3.out _).mono ?_; rintro _ w1 ⟨rfl, hb⟩; replace hR := hR.later hb; clear hb; obtain ⟨q0, q1, q2, q3, _⟩ := rJ hR))
     go_ret
     exact ⟨rfl, hR.below⟩
 . rw [if_neg h]
   have ha : a <= 0 := by omega
   have hb1 : 0 <= b := by omega
   clear h k3 k4
   rcases k5 with rfl | rfl | rfl
   all_goals
    go_enter Tryz.func49, Tryz.ntmps49
    go_upto_region 1 with (fail)
    generalize World.alloc _ _ = W0 at hR ⊢
    obtain ⟨q0, q1, q2, q3, _⟩ := rJ hR
    go_wp2_with (first
     | (go_at_call 77; with_reducible refine (C1.out _).mono ?_; rintro _ w1 ⟨rfl, hb⟩; replace hR := hR.later hb; clear hb; obtain ⟨q0, q1, q2, q3, _⟩ := rJ hR)
     | (go_at_call 77; with_reducible refine (C2.out _).mono ?_; rintro _ w1 ⟨rfl, hb⟩; replace hR := hR.later hb; clear hb; obtain ⟨q0, q1, q2, q3, _⟩ := rJ hR)
     | (go_at_call 78; with_reducible refine (C3.out _).mono ?_; rintro _ w1 ⟨rfl, hb⟩; replace hR := hR.later hb; clear hb; obtain ⟨q0, q1, q2, q3, _⟩ := rJ hR))
    go_ret
    exact ⟨rfl, hR.below⟩
theorem xC (a lo b hi : Int) (w : World) :
 Calls Tryz.prog 46 #[r4 a lo b hi] w fun r w' => r = .returned (.int .i64 (cZ a lo b hi)) /\ Below w.heap.size w w' := by
 have hR : Rw w.heap.size (l4 a lo b hi) w _ := Rw.fresh (Below.refl _ _) _ 42
 have C1 := fun w => xE a lo w
 have C2 := fun w => xE b hi w
 have C3 := fun w => DY a lo b hi w
 unfold ev at C1 C2 C3
 obtain ⟨x, hx⟩ : ∃ x, x = FV a lo := ⟨_, rfl⟩
 obtain ⟨y, hy⟩ : ∃ y, y = FV b hi := ⟨_, rfl⟩
 obtain ⟨c, hc⟩ : ∃ c, c = bG a lo b hi := ⟨_, rfl⟩
 obtain ⟨k1, k2, k3, k4, k5, k6⟩ := VI hx hy hc
 rw [<- hx] at C1; rw [<- hy] at C2; rw [<- hc] at C3
 rw [k6]
 clear k6 hx hy hc
 replace C1 := Lib.hid C1; replace C2 := Lib.hid C2; replace C3 := Lib.hid C3
 unfold r4
 unfold l4 at hR
 rcases k1 with rfl | rfl
 case inr =>
  rw [if_pos (.inl (by decide))]
  go_enter Tryz.func46, Tryz.ntmps46
  go_upto_region 1 with (fail)
  generalize World.alloc _ _ = W0 at hR ⊢
  obtain ⟨q0, q1, q2, q3, _⟩ := rJ hR
  go_wp2_with (first
   | (go_at_call 73; with_reducible refine (C1.out _).mono ?_; rintro _ w1 ⟨rfl, hb⟩; replace hR := hR.later hb; clear hb; obtain ⟨q0, q1, q2, q3, _⟩ := rJ hR)
   | (go_at_call 73; with_reducible refine (C2.out _).mono ?_; rintro _ w1 ⟨rfl, hb⟩; replace hR := hR.later hb; clear hb; obtain ⟨q0, q1, q2, q3, _⟩ := rJ hR)
   | (go_at_call 69; with_reducible refine (C3.out _).mono ?_; rintro _ w1 ⟨rfl, hb⟩; replace hR := hR.later hb; clear hb; obtain ⟨q0, q1, q2, q3, _⟩ := rJ hR))
  go_ret
  exact ⟨rfl, hR.below⟩
 rcases k2 with rfl | rfl
 case inr =>
  rw [if_pos (.inr (by decide))]
  go_enter Tryz.func46, Tryz.ntmps46
  go_upto_region 1 with (fail)
  generalize World.alloc _ _ = W0 at hR ⊢
  obtain ⟨q0, q1, q2, q3, _⟩ := rJ hR
  go_wp2_with (first
   | (go_at_call 73; with_reducible refine (C1.out _).mono ?_; rintro _ w1 ⟨rfl, hb⟩; replace hR := hR.later hb; clear hb; obtain ⟨q0, q1, q2, q3, _⟩ := rJ hR)
   | (go_at_call 73; with_reducible refine (C2.out _).mono ?_; rintro _ w1 ⟨rfl, hb⟩; replace hR := hR.later hb; clear hb; obtain ⟨q0, q1, q2, q3, _⟩ := rJ hR)
   | (go_at_call 69; with_reducible refine (C3.out _).mono ?_; rintro _ w1 ⟨rfl, hb⟩; replace hR := hR.later hb; clear hb; obtain ⟨q0, q1, q2, q3, _⟩ := rJ hR))
  go_ret
  exact ⟨rfl, hR.below⟩
 have k3 := k3 rfl; have k4 := k4 rfl
 rw [if_neg (by simp)]
 by_cases h : a = 1 \/ b = -1
 . rw [if_pos h]
   by_cases ha : a = 1
   . subst ha
     clear h k3 k4
     go_enter Tryz.func46, Tryz.ntmps46
     go_upto_region 1 with (fail)
     generalize World.alloc _ _ = W0 at hR ⊢
     obtain ⟨q0, q1, q2, q3, _⟩ := rJ hR
     go_wp2_with (first
      | (go_at_call 73; with_reducible refine (C1.out _).mono ?_; rintro _ w1 ⟨rfl, hb⟩; replace hR := hR.later hb; clear hb; obtain ⟨q0, q1, q2, q3, _⟩ := rJ hR)
      | (go_at_call 73; with_reducible refine (C2.out _).mono ?_; rintro _ w1 ⟨rfl, hb⟩; replace hR := hR.later hb; clear hb; obtain ⟨q0, q1, q2, q3, _⟩ := rJ hR)
      | (go_at_call 69; with_reducible refine (C3.out _).mono ?_; rintro _ w1 ⟨rfl, hb⟩; replace hR := hR.later hb; clear hb; obtain ⟨q0, q1, q2, q3, _⟩ := rJ hR))
     go_ret
     exact ⟨rfl, hR.below⟩
   . have hb1 : b = -1 := by omega
     subst hb1
     have ha2 : (a == 1) = false := by rw [beq_eq_false_iff_ne]; exact ha
     clear h k3 k4 ha
     go_enter Tryz.func46, Tryz.ntmps46
     go_upto_region 1 with (fail)
     generalize World.alloc _ _ = W0 at hR ⊢
     obtain ⟨q0, q1, q2, q3, _⟩ := rJ hR
     go_wp2_with (first
      | (go_at_call 73; with_reducible refine (C1.out _).mono ?_; rintro _ w1 ⟨rfl, hb⟩; replace hR := hR.later hb; clear hb; obtain ⟨q0, q1, q2, q3, _⟩ := rJ hR)
      | (go_at_call 73; with_reducible refine (C2.out _).mono ?_; rintro _ w1 ⟨rfl, hb⟩; replace hR := hR.later hb; clear hb; obtain ⟨q0, q1, q2, q3, _⟩ := rJ hR)
      | (go_at_call 69; with_reducible refine (C3.out _).mono ?_; rintro _ w1 ⟨rfl, hb⟩; replace hR := hR.later hb; clear hb; obtain ⟨q0, q1, q2, q3, _⟩ := rJ hR))
     go_ret
     exact ⟨rfl, hR.below⟩
 . rw [if_neg h]
   have ha : (a == 1) = false := by rw [beq_eq_false_iff_ne]; exact fun e => h (.inl e)
   have hb1 : (b == -1) = false := by rw [beq_eq_false_iff_ne]; exact fun e => h (.inr e)
   clear h k3 k4
   rcases k5 with rfl | rfl | rfl
   all_goals
    go_enter Tryz.func46, Tryz.ntmps46
    go_upto_region 1 with (fail)
    generalize World.alloc _ _ = W0 at hR ⊢
    obtain ⟨q0, q1, q2, q3, _⟩ := rJ hR
    go_wp2_with (first
     | (go_at_call 73; with_reducible refine (C1.out _).mono ?_; rintro _ w1 ⟨rfl, hb⟩; replace hR := hR.later hb; clear hb; obtain ⟨q0, q1, q2, q3, _⟩ := rJ hR)
     | (go_at_call 73; with_reducible refine (C2.out _).mono ?_; rintro _ w1 ⟨rfl, hb⟩; replace hR := hR.later hb; clear hb; obtain ⟨q0, q1, q2, q3, _⟩ := rJ hR)
     | (go_at_call 69; with_reducible refine (C3.out _).mono ?_; rintro _ w1 ⟨rfl, hb⟩; replace hR := hR.later hb; clear hb; obtain ⟨q0, q1, q2, q3, _⟩ := rJ hR))
    go_ret
    exact ⟨rfl, hR.below⟩
end Sk
end
section
open Go.RowKit Go.Lib
namespace Sk
open Un (ba bt ri rb)
open Bk (Rw)
structure R2 (p q : Nat) (a lo b hi c lp d hp : Int) (w W : World) : Prop where
 x : Rw p (l4 a lo b hi) w W
 y : Rw q (l4 c lp d hp) w W
theorem R2.later {p q : Nat} {a lo b hi c lp d hp : Int} {w W W2 : World} (h : R2 p q a lo b hi c lp d hp w W) (hb : Below W.heap.size W W2) : R2 p q a lo b hi c lp d hp w W2 := ⟨h.x.later hb, h.y.later hb⟩
theorem R2.S {p q : Nat} {a lo b hi c lp d hp : Int} {w W : World} (h : R2 p q a lo b hi c lp d hp w W) :
 W.cell? ⟨p, 0, none⟩ = some (.int .i8 a) /\ W.cell? ⟨p, 1, none⟩ = some (.int .i64 lo) /\ W.cell? ⟨p, 2, none⟩ = some (.int .i8 b) /\ W.cell? ⟨p, 3, none⟩ = some (.int .i64 hi) /\
 W.cell? ⟨q, 0, none⟩ = some (.int .i8 c) /\ W.cell? ⟨q, 1, none⟩ = some (.int .i64 lp) /\ W.cell? ⟨q, 2, none⟩ = some (.int .i8 d) /\ W.cell? ⟨q, 3, none⟩ = some (.int .i64 hp) /\ R2 p q a lo b hi c lp d hp w W :=
 ⟨h.x.cell 0 _ rfl, h.x.cell 1 _ rfl, h.x.cell 2 _ rfl, h.x.cell 3 _ rfl, h.y.cell 0 _ rfl, h.y.cell 1 _ rfl, h.y.cell 2 _ rfl, h.y.cell 3 _ rfl, h⟩
theorem R2.new (a lo b hi c lp d hp : Int) (w : World) (t t2 : TypeId) : R2 w.heap.size (w.heap.size + 1) a lo b hi c lp d hp w ((w.alloc (.cells (l4 a lo b hi).toArray t)).alloc (.cells (l4 c lp d hp).toArray t2)) := by
 have f1 := Rw.fresh (Below.refl w.heap.size w) (l4 a lo b hi) t
 have f2 := Rw.fresh f1.below (l4 c lp d hp) t2
 simp only [dM] at f2
 exact ⟨f1.later (ba (Below.refl _ _) _), f2⟩
theorem NP (a lo b hi c lp d hp : Int) (w : World) :
 Calls Tryz.prog 103 #[r4 a lo b hi, r4 c lp d hp] w fun r w' => r = .returned (.bool (decide (cZ a lo b hi = 0) && decide (cZ c lp d hp = 0))) /\ Below w.heap.size w w' := by
 have hR := R2.new a lo b hi c lp d hp w 42 42
 have C1 := fun w => kP a lo b hi w
 have C2 := fun w => kP c lp d hp w
 unfold r4 at C1 C2
 generalize cZ a lo b hi = x at *
 generalize cZ c lp d hp = y at *
 replace C1 := Lib.hid C1; replace C2 := Lib.hid C2
 unfold r4
 unfold l4 at hR
 by_cases hx : x = 0
 . subst hx
   by_cases hy : y = 0
   . subst hy
     go_enter Tryz.func103, Tryz.ntmps103
     go_upto_region 1 with (fail)
     generalize World.alloc _ _ = W0 at hR ⊢
     generalize w.heap.size + 1 = q at *
     obtain ⟨q0, q1, q2, q3, q4, q5, q6, q7, _⟩ := R2.S hR
     go_wp2_with (first
      | (go_at_call 49; with_reducible refine (C1.out _).mono ?_; rintro _ w1 ⟨rfl, hb⟩; replace hR := hR.later hb; clear hb; obtain ⟨q0, q1, q2, q3, q4, q5, q6, q7, _⟩ := R2.S hR)
      | (go_at_call 49; with_reducible refine (C2.out _).mono ?_; rintro _ w1 ⟨rfl, hb⟩; replace hR := hR.later hb; clear hb; obtain ⟨q0, q1, q2, q3, q4, q5, q6, q7, _⟩ := R2.S hR))
     go_ret
     exact ⟨rfl, hR.x.below⟩
   . go_enter Tryz.func103, Tryz.ntmps103
     go_upto_region 1 with (fail)
     generalize World.alloc _ _ = W0 at hR ⊢
     generalize w.heap.size + 1 = q at *
     obtain ⟨q0, q1, q2, q3, q4, q5, q6, q7, _⟩ := R2.S hR
     go_wp2_with (first
      | (go_at_call 49; with_reducible refine (C1.out _).mono ?_; rintro _ w1 ⟨rfl, hb⟩; replace hR := hR.later hb; clear hb; obtain ⟨q0, q1, q2, q3, q4, q5, q6, q7, _⟩ := R2.S hR)
      | (go_at_call 49; with_reducible refine (C2.out _).mono ?_; rintro _ w1 ⟨rfl, hb⟩; replace hR := hR.later hb; clear hb; obtain ⟨q0, q1, q2, q3, q4, q5, q6, q7, _⟩ := R2.S hR))
     go_ret
     exact ⟨by simp [hy], hR.x.below⟩
 . go_enter Tryz.func103, Tryz.ntmps103
   go_upto_region 1 with (fail)
   generalize World.alloc _ _ = W0 at hR ⊢
   generalize w.heap.size + 1 = q at *
   obtain ⟨q0, q1, q2, q3, q4, q5, q6, q7, _⟩ := R2.S hR
   go_wp2_with (first
    | (go_at_call 49; with_reducible refine (C1.out _).mono ?_; rintro _ w1 ⟨rfl, hb⟩; replace hR := hR.later hb; clear hb; obtain ⟨q0, q1, q2, q3, q4, q5, q6, q7, _⟩ := R2.S hR))
   go_ret
   exact ⟨by simp [hx], hR.x.below⟩
theorem aC4 (a lo b hi c lp d hp : Int) : IE a lo b hi c lp d hp = if bG a lo c lp = 0 then bG b hi d hp else bG a lo c lp := rfl
theorem ZY (a lo b hi c lp d hp : Int) (w : World) :
 Calls Tryz.prog 79 #[r4 a lo b hi, r4 c lp d hp] w fun r w' => r = .returned (.int .i64 (IE a lo b hi c lp d hp)) /\ Below w.heap.size w w' := by
 have hE := R2.new a lo b hi c lp d hp w 42 42
 rw [aC4]
 have C1 := fun w => gY a lo c lp w
 have C2 := fun w => gY b hi d hp w
 unfold ev at C1 C2
 generalize bG a lo c lp = x at *
 generalize bG b hi d hp = y at *
 obtain ⟨z, hz⟩ : ∃ z, z = if x = 0 then y else x := ⟨_, rfl⟩
 rw [<- hz]
 have HO := fun g w h0 h1 => aFA g x y w h0 h1
 rw [<- hz] at HO
 clear hz
 replace HO := Lib.hid HO; replace C1 := Lib.hid C1; replace C2 := Lib.hid C2
 unfold r4
 unfold l4 at hE
 go_enter Tryz.func79, Tryz.ntmps79
 go_upto_region 1 with (fail)
 generalize World.alloc _ _ = W0 at hE ⊢
 generalize w.heap.size + 1 = q at *
 generalize w.heap.size = p at *
 replace hE := Lib.hid (hE.later (Below.refl _ _).drew)
 go_region_held3 (fun w' => w'.cell? ⟨p, 0, none⟩ = some (.int .i8 a) /\ w'.cell? ⟨p, 1, none⟩ = some (.int .i64 lo) /\ w'.cell? ⟨p, 2, none⟩ = some (.int .i8 b) /\ w'.cell? ⟨p, 3, none⟩ = some (.int .i64 hi) /\ w'.cell? ⟨q, 0, none⟩ = some (.int .i8 c) /\ w'.cell? ⟨q, 1, none⟩ = some (.int .i64 lp) /\ w'.cell? ⟨q, 2, none⟩ = some (.int .i8 d) /\ w'.cell? ⟨q, 3, none⟩ = some (.int .i64 hp) /\ R2 p q a lo b hi c lp d hp w w') (first | exact hE.out.S | (have hk := ‹_ /\ _ /\ _ /\ _ /\ _ /\ _ /\ _ /\ _ /\ R2 _ _ _ _ _ _ _ _ _ _ _ _›; exact (hk.2.2.2.2.2.2.2.2.later (Below.refl _ _).drew).S) | (have hk := ‹_ /\ _ /\ _ /\ _ /\ _ /\ _ /\ _ /\ _ /\ R2 _ _ _ _ _ _ _ _ _ _ _ _›; exact (hk.2.2.2.2.2.2.2.2.later (ba (Below.refl _ _) _)).S) | (have hk := ‹_ /\ _ /\ _ /\ _ /\ _ /\ _ /\ _ /\ _ /\ R2 _ _ _ _ _ _ _ _ _ _ _ _›; exact (hk.2.2.2.2.2.2.2.2.later hb2).S) | exact (hE.out.later hb2).S | assumption) ((first | (go_at_call 78; with_reducible refine (C1.out _).mono ?_; rintro _ w6 ⟨rfl, hb2⟩) | (go_at_call 78; with_reducible refine (C2.out _).mono ?_; rintro _ w6 ⟨rfl, hb2⟩) | (go_at_call 100; refine (HO.out _ _ (by simp) (by simp)).mono ?_; rintro _ w6 ⟨rfl, rfl⟩)))
 rename_i hk
 go_wp2
 go_ret
 exact ⟨rfl, hk.2.2.2.2.2.2.2.2.x.below⟩
theorem dq (a b : Int) : decide (a = b) = (a == b) := by rw [Bool.eq_iff_iff]; simp
theorem aE8 (a lo b hi x : Int) (w : World) :
 Calls Tryz.prog 147 #[r4 a lo b hi, .int .i64 x] w fun r w' => r = .returned (.bool (aGW a lo b hi x)) /\ Below w.heap.size w w' := by
 unfold r4 aGW
 rw [dq a, dq b]
 cases e1 : (a == -1) <;> cases e2 : (b == 1) <;> by_cases h3 : lo <= x <;> by_cases h4 : x <= hi
 all_goals
  first | rw [decide_eq_true h3] | rw [decide_eq_false h3]
  first | rw [decide_eq_true h4] | rw [decide_eq_false h4]
  go_enter Tryz.func147, Tryz.ntmps147
  go_wp2
  go_ret
  exact ⟨rfl, ba (Below.refl _ _) _⟩
theorem DZ (a lo b hi c lp d hp : Int) (w : World) :
 Calls Tryz.prog 121 #[r4 a lo b hi, r4 c lp d hp] w fun r w' => r = .returned (.bool (kU a lo b hi c lp)) /\ Below w.heap.size w w' := by
 have hR := R2.new a lo b hi c lp d hp w 42 42
 have C1 := fun w => aE8 a lo b hi lp w
 unfold r4 at C1
 unfold kU
 generalize aGW a lo b hi lp = x at *
 replace C1 := Lib.hid C1
 unfold r4
 unfold l4 at hR
 rw [dq a]
 by_cases hc : c = -1
 . subst hc
   rw [if_pos rfl]
   generalize e1 : (a == -1) = e
   go_enter Tryz.func121, Tryz.ntmps121
   go_wp2
   go_ret
   exact ⟨rfl, hR.x.below⟩
 . rw [if_neg hc]
   have e1 : (c == -1) = false := by rw [beq_eq_false_iff_ne]; exact hc
   clear hc
   go_enter Tryz.func121, Tryz.ntmps121
   go_wp2_with (go_at_call 147; with_reducible refine (C1.out _).mono ?_; rintro _ w1 ⟨rfl, hb⟩)
   go_ret
   exact ⟨rfl, bt hR.x.below hb⟩
theorem QB (a lo b hi c lp d hp : Int) (w : World) :
 Calls Tryz.prog 92 #[r4 a lo b hi, r4 c lp d hp] w fun r w' => r = .returned (.bool (kU a lo b hi c lp || kU c lp d hp a lo)) /\ Below w.heap.size w w' := by
 have hR := R2.new a lo b hi c lp d hp w 42 42
 have C1 := fun w => DZ a lo b hi c lp d hp w
 have C2 := fun w => DZ c lp d hp a lo b hi w
 unfold r4 at C1 C2
 generalize kU a lo b hi c lp = x at *
 generalize kU c lp d hp a lo = y at *
 replace C1 := Lib.hid C1
 replace C2 := Lib.hid C2
 unfold r4
 unfold l4 at hR
 cases x
 all_goals
  go_enter Tryz.func92, Tryz.ntmps92
  go_upto_region 1 with (fail)
  generalize World.alloc _ _ = W0 at hR ⊢
  generalize w.heap.size + 1 = q at *
  obtain ⟨q0, q1, q2, q3, q4, q5, q6, q7, _⟩ := R2.S hR
  go_wp2_with (first
   | (go_at_call 121; with_reducible refine (C1.out _).mono ?_; rintro _ w1 ⟨rfl, hb⟩; replace hR := hR.later hb; clear hb; obtain ⟨q0, q1, q2, q3, q4, q5, q6, q7, _⟩ := R2.S hR)
   | (go_at_call 121; with_reducible refine (C2.out _).mono ?_; rintro _ w1 ⟨rfl, hb⟩; replace hR := hR.later hb; clear hb; obtain ⟨q0, q1, q2, q3, q4, q5, q6, q7, _⟩ := R2.S hR))
  go_ret
  exact ⟨by simp, hR.x.below⟩
theorem aMZ {b hi c lp : Int} (h3 : hi < 9223372036854775808) : YW b hi c lp = ((b == 0) && (c == 0) && decide (hi < 9223372036854775807) && (hi + 1 == lp)) := by
 unfold YW; rw [dq, dq, dq]
theorem VT (a lo b hi c lp d hp : Int) (w : World) (h2 : -9223372036854775808 <= hi) (h3 : hi < 9223372036854775808) :
 Calls Tryz.prog 93 #[r4 a lo b hi, r4 c lp d hp] w fun r w' => r = .returned (.bool (YW b hi c lp)) /\ Below w.heap.size w w' := by
 have hR := R2.new a lo b hi c lp d hp w 42 42
 rw [aMZ h3]
 unfold r4
 unfold l4 at hR
 by_cases h4 : hi < 9223372036854775807
 . rw [decide_eq_true h4]
   have hw : wrap64 (hi + 1) = hi + 1 := by unfold wrap64; omega
   generalize e3 : (hi + 1 == lp) = x3
   cases e1 : (b == 0) <;> cases e2 : (c == 0) <;> cases x3
   all_goals
    go_enter Tryz.func93, Tryz.ntmps93
    go_wp2
    go_ret
    exact ⟨by first | rfl | simp [*], hR.x.below⟩
 . rw [decide_eq_false h4]
   cases e1 : (b == 0) <;> cases e2 : (c == 0)
   all_goals
    go_enter Tryz.func93, Tryz.ntmps93
    go_wp2
    go_ret
    exact ⟨by first | rfl | simp, hR.x.below⟩
theorem aAa (a lo b hi c lp d hp : Int) (w : World) (h2 : -9223372036854775808 <= hi) (h3 : hi < 9223372036854775808) (g2 : -9223372036854775808 <= hp) (g3 : hp < 9223372036854775808) :
 Calls Tryz.prog 70 #[r4 a lo b hi, r4 c lp d hp] w fun r w' => r = .returned (.bool (GK a lo b hi c lp d hp)) /\ Below w.heap.size w w' := by
 have hR := R2.new a lo b hi c lp d hp w 42 42
 have C1 := fun w => QB a lo b hi c lp d hp w
 have C2 := fun w => VT a lo b hi c lp d hp w h2 h3
 have C3 := fun w => VT c lp d hp a lo b hi w g2 g3
 unfold r4 at C1 C2 C3
 unfold GK
 generalize (kU a lo b hi c lp || kU c lp d hp a lo) = x at *
 generalize YW b hi c lp = y at *
 generalize YW d hp a lo = z at *
 replace C1 := Lib.hid C1; replace C2 := Lib.hid C2; replace C3 := Lib.hid C3
 clear h2 h3 g2 g3
 unfold r4
 unfold l4 at hR
 cases x <;> cases y
 all_goals
  go_enter Tryz.func70, Tryz.ntmps70
  go_upto_region 1 with (fail)
  generalize World.alloc _ _ = W0 at hR ⊢
  generalize w.heap.size + 1 = q at *
  obtain ⟨q0, q1, q2, q3, q4, q5, q6, q7, _⟩ := R2.S hR
  go_wp2_with (first
   | (go_at_call 92; with_reducible refine (C1.out _).mono ?_; rintro _ w1 ⟨rfl, hb⟩; replace hR := hR.later hb; clear hb; obtain ⟨q0, q1, q2, q3, q4, q5, q6, q7, _⟩ := R2.S hR)
   | (go_at_call 93; with_reducible refine (C2.out _).mono ?_; rintro _ w1 ⟨rfl, hb⟩; replace hR := hR.later hb; clear hb; obtain ⟨q0, q1, q2, q3, q4, q5, q6, q7, _⟩ := R2.S hR)
   | (go_at_call 93; with_reducible refine (C3.out _).mono ?_; rintro _ w1 ⟨rfl, hb⟩; replace hR := hR.later hb; clear hb; obtain ⟨q0, q1, q2, q3, q4, q5, q6, q7, _⟩ := R2.S hR))
  go_ret
  exact ⟨by first | rfl | simp, hR.x.below⟩
end Sk
end
section
open Go.RowKit Go.Lib
namespace Sk
open Un (ba bt ri rb)
open Bk (Rw)
theorem aHO (pn pa pb pe : Addr) (n a b : Int) (v : Value) (u : FrameMode) (w : World) (hn : w.cell? pn = some (.int .i64 n)) (ha : w.cell? pa = some (.int .i64 a)) (hb : w.cell? pb = some (.int .i64 b)) (he : w.cell? pe = some v)
 (fn : w.frozen? pn = false) (fe : w.frozen? pe = false) (hne : pn ≠ pe) (c : 0 < b) (c2 : ¬ a < n) :
 CallsD Tryz.prog 177 #[.pointer (some pn), .pointer (some pa), .pointer (some pb), .pointer (some pe)] u w fun e u' w' => u' = u /\ (e = .returned (.tuple #[]) /\ w' = (w.setCell pn (.int .i64 0)).setCell pe (.int .i64 15)) := by
 go_enter_d Tryz.func177, Tryz.ntmps177
 go_wp2
 go_end0
 exact ⟨rfl, rfl⟩
theorem Q8 (a b : Int) (w : World) (a0 : -9223372036854775808 <= a) (a1 : a < 9223372036854775808) (b0 : 0 < b) (b1 : b < 9223372036854775808) (h : ¬ a + b < 9223372036854775808) :
 Calls Tryz.prog 148 #[.int .i64 a, .int .i64 b] w fun r w' => r = .returned (.tuple #[.int .i64 0, .int .i64 15]) /\ Below w.heap.size w w' := by
 have hmf : ∀ (fn : Fn) (first cap : Array Value) (w : World), (Instr.makeFunc fn first cap).run Tryz.prog w = .ok (.func fn first cap) w := fun _ _ _ _ => rfl
 have hb0 : ¬ b = 0 := by omega
 have hw : ¬ a < wrap64 (a + b) := by unfold wrap64; omega
 go_enter_defers Tryz.func148, Tryz.ntmps148
 go_wp2
 refine leaves_cons (f := 177) (args := #[.pointer (some ⟨w.heap.size + 1 + 1, 0, none⟩), .pointer (some ⟨w.heap.size, 0, none⟩), .pointer (some ⟨w.heap.size + 1, 0, none⟩), .pointer (some ⟨w.heap.size + 1 + 1 + 1, 0, none⟩)]) (by simp) (by simp [go_sem]) ?_
 refine (aHO _ _ _ _ (wrap64 (a + b)) a b (.int .i64 0) .returning _ (by simp [go_sem]) (by simp [go_sem]) (by simp [go_sem]) (by simp [go_sem]) (by simp [go_sem]) (by simp [go_sem]) (by simp) b0 (by omega)).mono ?_
 rintro e u' w'' ⟨rfl, rfl, rfl⟩
 simp [Leaves, settle, results, Tryz.results148, go_sem]
 exact ba (ba (ba (ba (Below.refl _ _) _) _) _) _
def TN (i d j e er : Int) : Prop := (er = 0 /\ ((i ≠ 0 /\ j = i /\ e = d) \/ (i = 0 /\ j = 0 /\ e = d + 1 /\ d < 9223372036854775807))) \/ (er = 15 /\ i = 0 /\ d = 9223372036854775807)
def aKY (i d : Int) (w : World) (r : Ending) (w' : World) : Prop := ∃ j e er, TN i d j e er /\ r = .returned (.tuple #[ev j e, .int .i64 er]) /\ Below w.heap.size w w'
theorem bp1 {fn : Func} {Q : Ending -> World -> Prop} {p : Tmp} {ty : TypeId} {tmps : Array Value} {w : World} {a : Addr} {v : Value} (h : fn.results = #[.cell p ty])
 (hp : tmps.getD p undef = .pointer (some a)) (hl : (loadVar ty a).run Tryz.prog w = .ok v w) (hQ : Q (.returned v) w) : bodyPost Tryz.prog fn Q Exit.ret ⟨tmps, []⟩ w := by
 have hp' : tmps[p]?.getD undef = .pointer (some a) := by simpa using hp
 exact bodyPost_ret (v := v) (by simp [results, h, hp', asAddr, hl]) rfl hQ
theorem bp2 {fn : Func} {Q : Ending -> World -> Prop} {p q : Tmp} {ty : TypeId} {tmps : Array Value} {w : World} {a : Addr} {v u : Value} (h : fn.results = #[.cell p ty, .tmp q])
 (hp : tmps.getD p undef = .pointer (some a)) (hq : tmps.getD q undef = u) (hl : (loadVar ty a).run Tryz.prog w = .ok v w) (hQ : Q (.returned (.tuple #[v, u])) w) : bodyPost Tryz.prog fn Q Exit.ret ⟨tmps, []⟩ w := by
 have hp' : tmps[p]?.getD undef = .pointer (some a) := by simpa using hp
 have hq' : tmps[q]?.getD undef = u := by simpa using hq
 exact bodyPost_ret (v := .tuple #[v, u]) (by simp [results, h, hp', hq', asAddr, hl]) rfl hQ
theorem aGR : (Tryz.prog.info? 40).map (·.size) = some 2 := by kernel_rfl
theorem JW {p : Nat} {i d : Int} {w W : World} (h : Rw p [.int .i8 i, .int .i64 d] w W) : (loadVar 40 ⟨p, 0, none⟩).run Tryz.prog W = .ok (ev i d) W :=
 run_loadVar_mid (P := Tryz.prog) _ p 0 40 [.int .i8 i, .int .i64 d] _ h.range Tryz.underlying40 rfl aGR
theorem aD6 (d : Int) (w : World) : Calls Tryz.prog 149 #[.int .i64 d] w fun r w' => r = .returned (ev 0 d) /\ Below w.heap.size w w' := by
 unfold ev
 go_enter Tryz.func149, Tryz.ntmps149
 go_wp2
 have hR : Rw w.heap.size [.int .i8 0, .int .i64 d] w _ := Rw.fresh (Below.refl _ _) _ 40
 exact bp1 Tryz.results149 rfl (JW hR) ⟨rfl, hR.below⟩
theorem aDI (i d : Int) (w : World) (h : endOk i d = true) (h0 : -9223372036854775808 <= d) (h1 : d < 9223372036854775808) :
 Calls Tryz.prog 128 #[ev i d, .int .i64 1] w (aKY i d w) := by
 have C1 := fun w => sK i d w
 have C4 := Lib.hid (fun d w => aD6 d w)
 rw [show FV i d = 0 by unfold FV; rw [h]; rfl] at C1
 unfold ev at C1 C4
 replace C1 := Lib.hid C1
 unfold ev
 have hR : Rw w.heap.size [.int .i8 i, .int .i64 d] w _ := Rw.fresh (Below.refl _ _) _ 40
 have hS := Rw.fresh hR.below [.int .i8 0, .int .i64 0] 40
 replace hR := hR.later (ba (Below.refl _ _) (.cells [.int .i8 0, .int .i64 0].toArray 40))
 simp only [dM] at hS
 by_cases hi : i = 0
 case neg =>
  have hi2 : (i == 0) = false := by rw [beq_eq_false_iff_ne]; exact hi
  have hN : TN i d i d 0 := .inl ⟨rfl, .inl ⟨hi, rfl, rfl⟩⟩
  clear hi
  go_enter Tryz.func128, Tryz.ntmps128
  go_upto_region 1 with (fail)
  generalize World.alloc _ _ = W0 at hR hS ⊢
  have q0 := hR.cell 0 _ rfl; have q1 := hR.cell 1 _ rfl
  go_wp2_with (go_at_call 77; with_reducible refine (C1.out _).mono ?_; rintro _ w1 ⟨rfl, hb⟩; replace hR := hR.later hb; replace hS := hS.later hb; clear hb; have q0 := hR.cell 0 _ rfl; have q1 := hR.cell 1 _ rfl; have s0 := hS.cell 0 _ rfl; have s1 := hS.cell 1 _ rfl; have z0 := hS.free 0 (by simp); have z1 := hS.free 1 (by simp))
  exact bp2 Tryz.results128 rfl rfl (JW (hS.cO [.int .i8 i, .int .i64 d] rfl)) ⟨_, _, _, hN, rfl, (hS.cO [.int .i8 i, .int .i64 d] rfl).below⟩
 case pos =>
  subst hi
  by_cases hd : d < 9223372036854775807
  . have hN : TN 0 d 0 (d + 1) 0 := .inl ⟨rfl, .inr ⟨rfl, rfl, rfl, hd⟩⟩
    have C5 := Lib.hid (fun w => Bk.yG d 1 w h0 h1 (by omega) (by omega) (by omega))
    generalize d + 1 = dn at *
    go_enter Tryz.func128, Tryz.ntmps128
    go_upto_region 1 with (fail)
    generalize World.alloc _ _ = W0 at hR hS ⊢
    generalize w.heap.size + 1 = q at *
    have q0 := hR.cell 0 _ rfl; have q1 := hR.cell 1 _ rfl
    go_wp2_with (first
     | (go_at_call 77; with_reducible refine (C1.out _).mono ?_; rintro _ w1 ⟨rfl, hb⟩; replace hR := hR.later hb; replace hS := hS.later hb; clear hb; have q0 := hR.cell 0 _ rfl; have q1 := hR.cell 1 _ rfl)
     | (go_at_call 148; with_reducible refine (C5.out _).mono ?_; rintro _ w2 ⟨rfl, hb⟩; replace hR := hR.later hb; replace hS := hS.later hb; clear hb; have q0 := hR.cell 0 _ rfl; have q1 := hR.cell 1 _ rfl)
     | (go_at_call 149; with_reducible refine (C4.out _ _).mono ?_; rintro _ w3 ⟨rfl, hb⟩; replace hR := hR.later hb; replace hS := hS.later hb; clear hb; have s0 := hS.cell 0 _ rfl; have s1 := hS.cell 1 _ rfl; have z0 := hS.free 0 (by simp); have z1 := hS.free 1 (by simp)))
    exact bp2 Tryz.results128 rfl rfl (JW (hS.cO [.int .i8 0, .int .i64 dn] rfl)) ⟨_, _, _, hN, rfl, (hS.cO [.int .i8 0, .int .i64 dn] rfl).below⟩
  . have hN : TN 0 d 0 0 15 := .inr ⟨rfl, rfl, by omega⟩
    have C5 := Lib.hid (fun w => Q8 d 1 w h0 h1 (by omega) (by omega) (by omega))
    go_enter Tryz.func128, Tryz.ntmps128
    go_upto_region 1 with (fail)
    generalize World.alloc _ _ = W0 at hR hS ⊢
    generalize w.heap.size + 1 = q at *
    have q0 := hR.cell 0 _ rfl; have q1 := hR.cell 1 _ rfl
    go_wp2_with (first
     | (go_at_call 77; with_reducible refine (C1.out _).mono ?_; rintro _ w1 ⟨rfl, hb⟩; replace hR := hR.later hb; replace hS := hS.later hb; clear hb; have q0 := hR.cell 0 _ rfl; have q1 := hR.cell 1 _ rfl)
     | (go_at_call 148; with_reducible refine (C5.out _).mono ?_; rintro _ w2 ⟨rfl, hb⟩; replace hR := hR.later hb; replace hS := hS.later hb; clear hb; have q0 := hR.cell 0 _ rfl; have q1 := hR.cell 1 _ rfl)
     | (go_at_call 149; with_reducible refine (C4.out _ _).mono ?_; rintro _ w3 ⟨rfl, hb⟩; replace hR := hR.later hb; replace hS := hS.later hb; clear hb; have s0 := hS.cell 0 _ rfl; have s1 := hS.cell 1 _ rfl; have z0 := hS.free 0 (by simp); have z1 := hS.free 1 (by simp)))
    exact bp2 Tryz.results128 rfl rfl (JW (hS.cO [.int .i8 0, .int .i64 0] rfl)) ⟨_, _, _, hN, rfl, (hS.cO [.int .i8 0, .int .i64 0] rfl).below⟩
theorem EF (i d : Int) (w : World) (h : endOk i d = true) (h0 : -9223372036854775808 <= d) (h1 : d < 9223372036854775808) :
 Calls Tryz.prog 104 #[ev i d] w (aKY i d w) := by
 have C1 := fun w => aDI i d w h h0 h1
 unfold ev at C1
 replace C1 := Lib.hid C1
 unfold ev
 have hR : Rw w.heap.size [.int .i8 i, .int .i64 d] w _ := Rw.fresh (Below.refl _ _) _ 40
 have hS := Rw.fresh hR.below [.int .i8 0, .int .i64 0] 40
 replace hR := hR.later (ba (Below.refl _ _) (.cells [.int .i8 0, .int .i64 0].toArray 40))
 simp only [dM] at hS
 go_enter Tryz.func104, Tryz.ntmps104
 go_upto_region 1 with (fail)
 generalize World.alloc _ _ = W0 at hR hS ⊢
 generalize w.heap.size + 1 = q at *
 have q0 := hR.cell 0 _ rfl; have q1 := hR.cell 1 _ rfl
 go_wp2_with (go_at_call 128; refine (C1.out _).mono ?_; rintro _ w1 ⟨j, e, er, hN, rfl, hb⟩; replace hN := Lib.hid hN; unfold ev; replace hS := hS.later hb; clear hb; have s0 := hS.cell 0 _ rfl; have s1 := hS.cell 1 _ rfl; have z0 := hS.free 0 (by simp); have z1 := hS.free 1 (by simp))
 exact bp2 Tryz.results104 rfl rfl (JW (hS.cO [.int .i8 j, .int .i64 e] rfl)) ⟨_, _, _, hN.out, rfl, (hS.cO [.int .i8 j, .int .i64 e] rfl).below⟩
theorem R2.swap {p q : Nat} {a lo b hi c lp d hp : Int} {w W : World} (h : R2 p q a lo b hi c lp d hp w W) (hne : p ≠ q) : R2 p q c lp d hp a lo b hi w ((W.setCells p 0 (l4 c lp d hp)).setCells q 0 (l4 a lo b hi)) :=
 ⟨(h.x.cO (l4 c lp d hp) rfl).others (Ne.symm hne) h.y.new _ _, (h.y.others hne h.x.new (l4 c lp d hp) 0).cO (l4 a lo b hi) rfl⟩
theorem aCd {a lo b hi c lp d hp : Int} (h : Right a lo b hi) (g : Right c lp d hp) (hc : ¬ bG c lp b hi <= 0) : c = 0 /\ b = 0 := by
 obtain ⟨x1, x2, x3⟩ := h
 obtain ⟨y1, y2, y3⟩ := g
 unfold bG at hc
 rcases x2 with ⟨rfl, rfl⟩ | rfl <;> rcases y1 with ⟨rfl, rfl⟩ | rfl <;> simp at hc ⊢
theorem WY {hi : Int} (h : hi < 9223372036854775807) (w : World) (h0 : -9223372036854775808 <= hi) :
 Calls Tryz.prog 104 #[ev 0 hi] w fun r w' => r = .returned (.tuple #[ev 0 (hi + 1), .int .i64 0]) /\ Below w.heap.size w w' := by
 refine (EF 0 hi w rfl h0 (by omega)).mono ?_
 rintro r w' ⟨j, e, er, hn, rfl, hb⟩
 rcases hn with ⟨rfl, ⟨h1, _⟩ | ⟨_, rfl, rfl, _⟩⟩ | ⟨_, _, h1⟩
 . exact absurd rfl h1
 . exact ⟨rfl, hb⟩
 . omega
theorem N9 (w : World) :
 Calls Tryz.prog 104 #[ev 0 9223372036854775807] w fun r w' => ∃ j e, r = .returned (.tuple #[ev j e, .int .i64 15]) /\ Below w.heap.size w w' := by
 refine (EF 0 9223372036854775807 w rfl (by omega) (by omega)).mono ?_
 rintro r w' ⟨j, e, er, hn, rfl, hb⟩
 rcases hn with ⟨rfl, ⟨h1, _⟩ | ⟨_, _, _, h1⟩⟩ | ⟨rfl, _, h1⟩
 . exact absurd rfl h1
 . omega
 . exact ⟨_, _, rfl, hb⟩
theorem aCO (a lo b hi c lp d hp : Int) (w : World) (h : Right a lo b hi) (g : Right c lp d hp) (h0 : -9223372036854775808 <= lo) (h1 : lo < 9223372036854775808) (h2 : -9223372036854775808 <= hi) (h3 : hi < 9223372036854775808)
 (g0 : -9223372036854775808 <= lp) (g1 : lp < 9223372036854775808) (g2 : -9223372036854775808 <= hp) (g3 : hp < 9223372036854775808) :
 Calls Tryz.prog 80 #[r4 a lo b hi, r4 c lp d hp] w fun r w' => r = .returned (.bool (GL a lo b hi c lp d hp)) /\ Below w.heap.size w w' := by
 have hR := R2.new a lo b hi c lp d hp w 42 42
 have C1 := fun w => NP a lo b hi c lp d hp w
 rw [NM h, NM g] at C1
 rw [show (decide ((0 : Int) = 0) && decide ((0 : Int) = 0)) = true from rfl] at C1
 have C2 := fun w => gY c lp a lo w
 unfold GL
 unfold r4 at C1
 unfold ev at C2
 by_cases hx : bG c lp a lo < 0
 . rw [if_pos hx]
   have C3 := fun w => gY a lo d hp w
   have hd := aCd g h
   unfold ev at C3
   by_cases hy : bG a lo d hp <= 0
   . rw [decide_eq_true hy, Bool.true_or]
     clear h g hd
     generalize bG c lp a lo = x at *
     generalize bG a lo d hp = y at *
     replace C1 := Lib.hid C1; replace C2 := Lib.hid C2; replace C3 := Lib.hid C3
     unfold r4
     unfold l4 at hR
     go_enter Tryz.func80, Tryz.ntmps80
     have hne : w.heap.size ≠ w.heap.size + 1 := by omega
     go_upto_region 1 with (fail)
     generalize World.alloc _ _ = W0 at hR ⊢
     generalize w.heap.size + 1 = q at *
     obtain ⟨q0, q1, q2, q3, q4, q5, q6, q7, _⟩ := R2.S hR
     have z0 := fun W (h : R2 w.heap.size q a lo b hi c lp d hp w W) => (⟨h.x.free 0 (by unfold l4; simp), h.x.free 1 (by unfold l4; simp), h.x.free 2 (by unfold l4; simp), h.x.free 3 (by unfold l4; simp), h.y.free 0 (by unfold l4; simp), h.y.free 1 (by unfold l4; simp), h.y.free 2 (by unfold l4; simp), h.y.free 3 (by unfold l4; simp)⟩ : _ /\ _ /\ _ /\ _ /\ _ /\ _ /\ _ /\ _)
     replace z0 := Lib.hid z0
     go_upto_region 3 with (first | (go_at_call 103; with_reducible refine (C1.out _).mono ?_; rintro _ w1 ⟨rfl, hb⟩; replace hR := hR.later hb; clear hb; obtain ⟨q0, q1, q2, q3, q4, q5, q6, q7, _⟩ := R2.S hR) | (go_at_call 78; with_reducible refine (C2.out _).mono ?_; rintro _ w1 ⟨rfl, hb⟩; replace hR := hR.later hb; clear hb; obtain ⟨q0, q1, q2, q3, q4, q5, q6, q7, _⟩ := R2.S hR) | (go_at_call 78; with_reducible refine (C3.out _).mono ?_; rintro _ w1 ⟨rfl, hb⟩; replace hR := hR.later hb; clear hb; obtain ⟨q0, q1, q2, q3, q4, q5, q6, q7, _⟩ := R2.S hR))
     go_upto_region 4 with (first | (go_at_call 78; with_reducible refine (C2.out _).mono ?_; rintro _ w1 ⟨rfl, hb⟩; replace hR := hR.later hb; clear hb; obtain ⟨q0, q1, q2, q3, q4, q5, q6, q7, _⟩ := R2.S hR))
     obtain ⟨z1, z2, z3, z4, z5, z6, z7, z8⟩ := z0.out _ hR
     clear z0
     go_upto_region 5 with (fail)
     replace hR := hR.swap hne
     unfold l4 at hR
     simp only [World.setCells, Nat.zero_add, Nat.reduceAdd] at hR
     clear z1 z2 z3 z4 z5 z6 z7 z8 q0 q1 q2 q3 q4 q5 q6 q7
     generalize World.setCell _ _ _ = W5 at hR ⊢
     obtain ⟨q0, q1, q2, q3, q4, q5, q6, q7, _⟩ := R2.S hR
     go_wp2_with (first | (go_at_call 103; with_reducible refine (C1.out _).mono ?_; rintro _ w1 ⟨rfl, hb⟩; replace hR := hR.later hb; clear hb; obtain ⟨q0, q1, q2, q3, q4, q5, q6, q7, _⟩ := R2.S hR) | (go_at_call 78; with_reducible refine (C2.out _).mono ?_; rintro _ w1 ⟨rfl, hb⟩; replace hR := hR.later hb; clear hb; obtain ⟨q0, q1, q2, q3, q4, q5, q6, q7, _⟩ := R2.S hR) | (go_at_call 78; with_reducible refine (C3.out _).mono ?_; rintro _ w1 ⟨rfl, hb⟩; replace hR := hR.later hb; clear hb; obtain ⟨q0, q1, q2, q3, q4, q5, q6, q7, _⟩ := R2.S hR))
     go_ret
     exact ⟨rfl, hR.x.below⟩
   . obtain ⟨rfl, rfl⟩ := hd hy
     rw [decide_eq_false hy, Bool.false_or, decide_eq_true rfl, Bool.true_and, Bool.true_and]
     by_cases hm : hp < 9223372036854775807
     . have C4 := fun w => WY hm w g2
       unfold ev at C4
       clear h g hd hm
       rw [dq]
       generalize hp + 1 = hn at *
       generalize bG c lp 0 lo = x at *
       generalize bG 0 lo 0 hp = y at *
       replace C1 := Lib.hid C1; replace C2 := Lib.hid C2; replace C3 := Lib.hid C3; replace C4 := Lib.hid C4
       cases he : (hn == lo)
       all_goals
        unfold r4
        unfold l4 at hR
        go_enter Tryz.func80, Tryz.ntmps80
        have hne : w.heap.size ≠ w.heap.size + 1 := by omega
        go_upto_region 1 with (fail)
        generalize World.alloc _ _ = W0 at hR ⊢
        generalize w.heap.size + 1 = q at *
        obtain ⟨q0, q1, q2, q3, q4, q5, q6, q7, _⟩ := R2.S hR
        have z0 := fun W (h : R2 w.heap.size q 0 lo b hi c lp 0 hp w W) => (⟨h.x.free 0 (by unfold l4; simp), h.x.free 1 (by unfold l4; simp), h.x.free 2 (by unfold l4; simp), h.x.free 3 (by unfold l4; simp), h.y.free 0 (by unfold l4; simp), h.y.free 1 (by unfold l4; simp), h.y.free 2 (by unfold l4; simp), h.y.free 3 (by unfold l4; simp)⟩ : _ /\ _ /\ _ /\ _ /\ _ /\ _ /\ _ /\ _)
        replace z0 := Lib.hid z0
        go_upto_region 3 with (first | (go_at_call 103; with_reducible refine (C1.out _).mono ?_; rintro _ w1 ⟨rfl, hb⟩; replace hR := hR.later hb; clear hb; obtain ⟨q0, q1, q2, q3, q4, q5, q6, q7, _⟩ := R2.S hR) | (go_at_call 78; with_reducible refine (C2.out _).mono ?_; rintro _ w1 ⟨rfl, hb⟩; replace hR := hR.later hb; clear hb; obtain ⟨q0, q1, q2, q3, q4, q5, q6, q7, _⟩ := R2.S hR) | (go_at_call 78; with_reducible refine (C3.out _).mono ?_; rintro _ w1 ⟨rfl, hb⟩; replace hR := hR.later hb; clear hb; obtain ⟨q0, q1, q2, q3, q4, q5, q6, q7, _⟩ := R2.S hR))
        go_upto_region 4 with (first | (go_at_call 78; with_reducible refine (C2.out _).mono ?_; rintro _ w1 ⟨rfl, hb⟩; replace hR := hR.later hb; clear hb; obtain ⟨q0, q1, q2, q3, q4, q5, q6, q7, _⟩ := R2.S hR))
        obtain ⟨z1, z2, z3, z4, z5, z6, z7, z8⟩ := z0.out _ hR
        clear z0
        go_upto_region 5 with (fail)
        replace hR := hR.swap hne
        unfold l4 at hR
        simp only [World.setCells, Nat.zero_add, Nat.reduceAdd] at hR
        clear z1 z2 z3 z4 z5 z6 z7 z8 q0 q1 q2 q3 q4 q5 q6 q7
        generalize World.setCell _ _ _ = W5 at hR ⊢
        obtain ⟨q0, q1, q2, q3, q4, q5, q6, q7, _⟩ := R2.S hR
        go_wp2_with (first | (go_at_call 103; with_reducible refine (C1.out _).mono ?_; rintro _ w1 ⟨rfl, hb⟩; replace hR := hR.later hb; clear hb; obtain ⟨q0, q1, q2, q3, q4, q5, q6, q7, _⟩ := R2.S hR) | (go_at_call 78; with_reducible refine (C2.out _).mono ?_; rintro _ w1 ⟨rfl, hb⟩; replace hR := hR.later hb; clear hb; obtain ⟨q0, q1, q2, q3, q4, q5, q6, q7, _⟩ := R2.S hR) | (go_at_call 78; with_reducible refine (C3.out _).mono ?_; rintro _ w1 ⟨rfl, hb⟩; replace hR := hR.later hb; clear hb; obtain ⟨q0, q1, q2, q3, q4, q5, q6, q7, _⟩ := R2.S hR) | (go_at_call 104; with_reducible refine (C4.out _).mono ?_; rintro _ w1 ⟨rfl, hb⟩; replace hR := hR.later hb; clear hb; obtain ⟨q0, q1, q2, q3, q4, q5, q6, q7, _⟩ := R2.S hR; have l0 := hR.x.lt; have l1 := hR.y.lt))
        go_ret
        exact ⟨by first | rfl | simp [he], ba hR.x.below _⟩
     . have hm2 : hp = 9223372036854775807 := by omega
       subst hm2
       rw [decide_eq_false (by omega)]
       have C4 := fun w => N9 w
       unfold ev at C4
       clear h g hd hm
       generalize bG c lp 0 lo = x at *
       generalize bG 0 lo 0 9223372036854775807 = y at *
       replace C1 := Lib.hid C1; replace C2 := Lib.hid C2; replace C3 := Lib.hid C3; replace C4 := Lib.hid C4
       unfold r4
       unfold l4 at hR
       go_enter Tryz.func80, Tryz.ntmps80
       have hne : w.heap.size ≠ w.heap.size + 1 := by omega
       go_upto_region 1 with (fail)
       generalize World.alloc _ _ = W0 at hR ⊢
       generalize w.heap.size + 1 = q at *
       obtain ⟨q0, q1, q2, q3, q4, q5, q6, q7, _⟩ := R2.S hR
       have z0 := fun W (h : R2 w.heap.size q 0 lo b hi c lp 0 9223372036854775807 w W) => (⟨h.x.free 0 (by unfold l4; simp), h.x.free 1 (by unfold l4; simp), h.x.free 2 (by unfold l4; simp), h.x.free 3 (by unfold l4; simp), h.y.free 0 (by unfold l4; simp), h.y.free 1 (by unfold l4; simp), h.y.free 2 (by unfold l4; simp), h.y.free 3 (by unfold l4; simp)⟩ : _ /\ _ /\ _ /\ _ /\ _ /\ _ /\ _ /\ _)
       replace z0 := Lib.hid z0
       go_upto_region 3 with (first | (go_at_call 103; with_reducible refine (C1.out _).mono ?_; rintro _ w1 ⟨rfl, hb⟩; replace hR := hR.later hb; clear hb; obtain ⟨q0, q1, q2, q3, q4, q5, q6, q7, _⟩ := R2.S hR) | (go_at_call 78; with_reducible refine (C2.out _).mono ?_; rintro _ w1 ⟨rfl, hb⟩; replace hR := hR.later hb; clear hb; obtain ⟨q0, q1, q2, q3, q4, q5, q6, q7, _⟩ := R2.S hR) | (go_at_call 78; with_reducible refine (C3.out _).mono ?_; rintro _ w1 ⟨rfl, hb⟩; replace hR := hR.later hb; clear hb; obtain ⟨q0, q1, q2, q3, q4, q5, q6, q7, _⟩ := R2.S hR))
       go_upto_region 4 with (first | (go_at_call 78; with_reducible refine (C2.out _).mono ?_; rintro _ w1 ⟨rfl, hb⟩; replace hR := hR.later hb; clear hb; obtain ⟨q0, q1, q2, q3, q4, q5, q6, q7, _⟩ := R2.S hR))
       obtain ⟨z1, z2, z3, z4, z5, z6, z7, z8⟩ := z0.out _ hR
       clear z0
       go_upto_region 5 with (fail)
       replace hR := hR.swap hne
       unfold l4 at hR
       simp only [World.setCells, Nat.zero_add, Nat.reduceAdd] at hR
       clear z1 z2 z3 z4 z5 z6 z7 z8 q0 q1 q2 q3 q4 q5 q6 q7
       generalize World.setCell _ _ _ = W5 at hR ⊢
       obtain ⟨q0, q1, q2, q3, q4, q5, q6, q7, _⟩ := R2.S hR
       go_wp2_with (first | (go_at_call 103; with_reducible refine (C1.out _).mono ?_; rintro _ w1 ⟨rfl, hb⟩; replace hR := hR.later hb; clear hb; obtain ⟨q0, q1, q2, q3, q4, q5, q6, q7, _⟩ := R2.S hR) | (go_at_call 78; with_reducible refine (C2.out _).mono ?_; rintro _ w1 ⟨rfl, hb⟩; replace hR := hR.later hb; clear hb; obtain ⟨q0, q1, q2, q3, q4, q5, q6, q7, _⟩ := R2.S hR) | (go_at_call 78; with_reducible refine (C3.out _).mono ?_; rintro _ w1 ⟨rfl, hb⟩; replace hR := hR.later hb; clear hb; obtain ⟨q0, q1, q2, q3, q4, q5, q6, q7, _⟩ := R2.S hR) | (go_at_call 104; refine (C4.out _).mono ?_; rintro _ w1 ⟨j, e, rfl, hb⟩; replace hR := hR.later hb; clear hb; obtain ⟨q0, q1, q2, q3, q4, q5, q6, q7, _⟩ := R2.S hR))
       go_ret
       exact ⟨rfl, ba hR.x.below _⟩
 . rw [if_neg hx]
   have C3 := fun w => gY c lp b hi w
   have hd := aCd h g
   unfold ev at C3
   by_cases hy : bG c lp b hi <= 0
   . rw [decide_eq_true hy, Bool.true_or]
     clear h g hd
     generalize bG c lp a lo = x at *
     generalize bG c lp b hi = y at *
     replace C1 := Lib.hid C1; replace C2 := Lib.hid C2; replace C3 := Lib.hid C3
     unfold r4
     unfold l4 at hR
     go_enter Tryz.func80, Tryz.ntmps80
     have hne : w.heap.size ≠ w.heap.size + 1 := by omega
     go_upto_region 1 with (fail)
     generalize World.alloc _ _ = W0 at hR ⊢
     generalize w.heap.size + 1 = q at *
     obtain ⟨q0, q1, q2, q3, q4, q5, q6, q7, _⟩ := R2.S hR
     go_wp2_with (first | (go_at_call 103; with_reducible refine (C1.out _).mono ?_; rintro _ w1 ⟨rfl, hb⟩; replace hR := hR.later hb; clear hb; obtain ⟨q0, q1, q2, q3, q4, q5, q6, q7, _⟩ := R2.S hR) | (go_at_call 78; with_reducible refine (C2.out _).mono ?_; rintro _ w1 ⟨rfl, hb⟩; replace hR := hR.later hb; clear hb; obtain ⟨q0, q1, q2, q3, q4, q5, q6, q7, _⟩ := R2.S hR) | (go_at_call 78; with_reducible refine (C3.out _).mono ?_; rintro _ w1 ⟨rfl, hb⟩; replace hR := hR.later hb; clear hb; obtain ⟨q0, q1, q2, q3, q4, q5, q6, q7, _⟩ := R2.S hR))
     go_ret
     exact ⟨rfl, hR.x.below⟩
   . obtain ⟨rfl, rfl⟩ := hd hy
     rw [decide_eq_false hy, Bool.false_or, decide_eq_true rfl, Bool.true_and, Bool.true_and]
     by_cases hm : hi < 9223372036854775807
     . have C4 := fun w => WY hm w h2
       unfold ev at C4
       clear h g hd hm
       rw [dq]
       generalize hi + 1 = hn at *
       generalize bG 0 lp a lo = x at *
       generalize bG 0 lp 0 hi = y at *
       replace C1 := Lib.hid C1; replace C2 := Lib.hid C2; replace C3 := Lib.hid C3; replace C4 := Lib.hid C4
       cases he : (hn == lp)
       all_goals
        unfold r4
        unfold l4 at hR
        go_enter Tryz.func80, Tryz.ntmps80
        have hne : w.heap.size ≠ w.heap.size + 1 := by omega
        go_upto_region 1 with (fail)
        generalize World.alloc _ _ = W0 at hR ⊢
        generalize w.heap.size + 1 = q at *
        obtain ⟨q0, q1, q2, q3, q4, q5, q6, q7, _⟩ := R2.S hR
        go_wp2_with (first | (go_at_call 103; with_reducible refine (C1.out _).mono ?_; rintro _ w1 ⟨rfl, hb⟩; replace hR := hR.later hb; clear hb; obtain ⟨q0, q1, q2, q3, q4, q5, q6, q7, _⟩ := R2.S hR) | (go_at_call 78; with_reducible refine (C2.out _).mono ?_; rintro _ w1 ⟨rfl, hb⟩; replace hR := hR.later hb; clear hb; obtain ⟨q0, q1, q2, q3, q4, q5, q6, q7, _⟩ := R2.S hR) | (go_at_call 78; with_reducible refine (C3.out _).mono ?_; rintro _ w1 ⟨rfl, hb⟩; replace hR := hR.later hb; clear hb; obtain ⟨q0, q1, q2, q3, q4, q5, q6, q7, _⟩ := R2.S hR) | (go_at_call 104; with_reducible refine (C4.out _).mono ?_; rintro _ w1 ⟨rfl, hb⟩; replace hR := hR.later hb; clear hb; obtain ⟨q0, q1, q2, q3, q4, q5, q6, q7, _⟩ := R2.S hR; have l0 := hR.x.lt; have l1 := hR.y.lt))
        go_ret
        exact ⟨by first | rfl | simp [he], ba hR.x.below _⟩
     . have hm2 : hi = 9223372036854775807 := by omega
       subst hm2
       rw [decide_eq_false (by omega)]
       have C4 := fun w => N9 w
       unfold ev at C4
       clear h g hd hm
       generalize bG 0 lp a lo = x at *
       generalize bG 0 lp 0 9223372036854775807 = y at *
       replace C1 := Lib.hid C1; replace C2 := Lib.hid C2; replace C3 := Lib.hid C3; replace C4 := Lib.hid C4
       unfold r4
       unfold l4 at hR
       go_enter Tryz.func80, Tryz.ntmps80
       have hne : w.heap.size ≠ w.heap.size + 1 := by omega
       go_upto_region 1 with (fail)
       generalize World.alloc _ _ = W0 at hR ⊢
       generalize w.heap.size + 1 = q at *
       obtain ⟨q0, q1, q2, q3, q4, q5, q6, q7, _⟩ := R2.S hR
       go_wp2_with (first | (go_at_call 103; with_reducible refine (C1.out _).mono ?_; rintro _ w1 ⟨rfl, hb⟩; replace hR := hR.later hb; clear hb; obtain ⟨q0, q1, q2, q3, q4, q5, q6, q7, _⟩ := R2.S hR) | (go_at_call 78; with_reducible refine (C2.out _).mono ?_; rintro _ w1 ⟨rfl, hb⟩; replace hR := hR.later hb; clear hb; obtain ⟨q0, q1, q2, q3, q4, q5, q6, q7, _⟩ := R2.S hR) | (go_at_call 78; with_reducible refine (C3.out _).mono ?_; rintro _ w1 ⟨rfl, hb⟩; replace hR := hR.later hb; clear hb; obtain ⟨q0, q1, q2, q3, q4, q5, q6, q7, _⟩ := R2.S hR) | (go_at_call 104; refine (C4.out _).mono ?_; rintro _ w1 ⟨j, e, rfl, hb⟩; replace hR := hR.later hb; clear hb; obtain ⟨q0, q1, q2, q3, q4, q5, q6, q7, _⟩ := R2.S hR))
       go_ret
       exact ⟨rfl, ba hR.x.below _⟩
end Sk
end
section
open Go.RowKit Go.Lib
namespace Sk
open Un (ba bt ri rb)
open Bk (Rw)
theorem aG {P : Program} {md : Region.Mode} {ops : Array Oper} {Q : Exit -> Act -> World -> Prop} {S : World -> Prop} (i d : Nat) {oi : Oper} {v : Value} {fuel : Nat} {listed : Array Bool} {a : Act} {w : World} (hi : ops[i]? = some oi) (hd : oi.dst = some d)
 (hs : Region.noSelect ops = true) (hf : Region.free md ops listed i = true) (hr : (Region.ready md ops listed).contains i = true)
 (hQ : ∀ c a w, Q (.panic c) (a.put oi.dst v) w -> Q (.panic c) a w) (hy : YieldsIf P ops S oi v a) (hS : S w)
 (h : wpAnyH P md ops Q S fuel (listed.setIfInBounds i true) (a.put (some d) v) w) : wpAnyH P md ops Q S (fuel + 1) listed a w :=
 wpAnyH_take hi hs hf hr hQ hy hS (by rw [hd]; exact h)
def AY (W : World) (bs : Option Addr) (n : Nat) (f : Nat -> R4) : Prop := ∀ i, i < n -> ∃ g o, bs = some ⟨g, o, none⟩ /\ g < W.heap.size /\ W.cell? ⟨g, o + i * 4, none⟩ = some (.int .i8 (f i).a) /\ W.cell? ⟨g, o + i * 4 + 1, none⟩ = some (.int .i64 (f i).lo) /\ W.cell? ⟨g, o + i * 4 + 2, none⟩ = some (.int .i8 (f i).b) /\ W.cell? ⟨g, o + i * 4 + 3, none⟩ = some (.int .i64 (f i).hi)
theorem AY.later {W W2 : World} {bs : Option Addr} {n : Nat} {f : Nat -> R4} (h : AY W bs n f) (hb : Below W.heap.size W W2) : AY W2 bs n f := fun i hi => by
 obtain ⟨g, o, e, hg, c0, c1, c2, c3⟩ := h i hi
 exact ⟨g, o, e, by have := hb.size; omega, (hb.cell (p := ⟨g, _, none⟩) hg).trans c0, (hb.cell (p := ⟨g, _, none⟩) hg).trans c1, (hb.cell (p := ⟨g, _, none⟩) hg).trans c2, (hb.cell (p := ⟨g, _, none⟩) hg).trans c3⟩
structure Ms (g o k : Nat) (pa pl pb ph : Int) (q : Nat) (ca cl cb ch : Int) (w W : World) : Prop where
 p : g < W.heap.size /\ W.cell? ⟨g, o + k * 4, none⟩ = some (.int .i8 pa) /\ W.cell? ⟨g, o + k * 4 + 1, none⟩ = some (.int .i64 pl) /\ W.cell? ⟨g, o + k * 4 + 2, none⟩ = some (.int .i8 pb) /\ W.cell? ⟨g, o + k * 4 + 3, none⟩ = some (.int .i64 ph)
 c : Rw q (l4 ca cl cb ch) w W
theorem Ms.later {g o k : Nat} {pa pl pb ph : Int} {q : Nat} {ca cl cb ch : Int} {w W W2 : World} (h : Ms g o k pa pl pb ph q ca cl cb ch w W) (hb : Below W.heap.size W W2) : Ms g o k pa pl pb ph q ca cl cb ch w W2 := by
 obtain ⟨⟨hg, c0, c1, c2, c3⟩, hc⟩ := h
 exact ⟨⟨by have := hb.size; omega, (hb.cell (p := ⟨g, _, none⟩) hg).trans c0, (hb.cell (p := ⟨g, _, none⟩) hg).trans c1, (hb.cell (p := ⟨g, _, none⟩) hg).trans c2, (hb.cell (p := ⟨g, _, none⟩) hg).trans c3⟩, hc.later hb⟩
theorem Ms.S {g o k : Nat} {pa pl pb ph : Int} {q : Nat} {ca cl cb ch : Int} {w W : World} (h : Ms g o k pa pl pb ph q ca cl cb ch w W) :
 W.cell? ⟨g, o + k * 4, none⟩ = some (.int .i8 pa) /\ W.cell? ⟨g, o + k * 4 + 1, none⟩ = some (.int .i64 pl) /\ W.cell? ⟨g, o + k * 4 + 2, none⟩ = some (.int .i8 pb) /\ W.cell? ⟨g, o + k * 4 + 3, none⟩ = some (.int .i64 ph) /\
 W.cell? ⟨q, 0, none⟩ = some (.int .i8 ca) /\ W.cell? ⟨q, 1, none⟩ = some (.int .i64 cl) /\ W.cell? ⟨q, 2, none⟩ = some (.int .i8 cb) /\ W.cell? ⟨q, 3, none⟩ = some (.int .i64 ch) /\ Ms g o k pa pl pb ph q ca cl cb ch w W :=
 ⟨h.p.2.1, h.p.2.2.1, h.p.2.2.2.1, h.p.2.2.2.2, h.c.cell 0 _ rfl, h.c.cell 1 _ rfl, h.c.cell 2 _ rfl, h.c.cell 3 _ rfl, h⟩
def UZ (f : Nat -> R4) (i : Nat) : Bool := decide (0 < i) && aEl (f (i - 1)).a (f (i - 1)).lo (f (i - 1)).b (f (i - 1)).hi (f i).a (f i).lo (f i).b (f i).hi
theorem aHF {f : Nat -> R4} {i : Nat} (h : (f i).err = 0) : OY f i = if UZ f i then 12 else 0 := by
 unfold OY UZ
 rw [if_pos h]
 simp only [Bool.and_eq_true, decide_eq_true_eq]
theorem aCq {f : Nat -> R4} {i : Nat} (h : (f i).err ≠ 0) : OY f i = (f i).err := by
 unfold OY; rw [if_neg h]
def aP1 (v : Int) (w : World) (e : Ending) (w' : World) : Prop := e = .returned (.int .i64 v) /\ Below w.heap.size w w'
def intOf : Value -> Int
 | .int _ n => n
 | _ => 0
theorem PU (f : Nat -> R4) (bs : Option Addr) (n cp : Nat) (w : World) (hb : ∀ j, (f j).Bd) (hs : AY w bs n f) :
 Calls Tryz.prog 50 #[.slice bs n cp] w (aP1 (kY f n) w) := by
 unfold kY
 by_cases hn : 4096 < n
 . rw [if_pos hn]
   have hn2 : (4096 : Int) < n := by omega
   clear hn hs hb
   go_enter Tryz.func50, Tryz.ntmps50
   go_wp2
   go_ret
   exact ⟨rfl, Below.refl _ _⟩
 rw [if_neg hn]
 have hn2 : (n : Int) <= 4096 := by omega
 obtain ⟨E, hE⟩ : ∃ E, E = scan (OY f) n 0 := ⟨_, rfl⟩
 rw [<- hE]
 have HE := Lib.hid hE
 have HS := Lib.hid hs
 have HBD := Lib.hid hb
 have HC := Lib.hid (fun i w => kP (f i).a (f i).lo (f i).b (f i).hi w)
 clear hE hs hb hn
 go_enter Tryz.func50, Tryz.ntmps50
 go_wp2
 go_loopw [2, 11] (fun r i wr => ∃ i' : Nat, r = .int .i64 0 /\ i = .int .i64 i' /\ i' <= n /\ (∀ j, j < i' -> OY f j = 0) /\ scan (OY f) (n - i') i' = E /\ Below w.heap.size w wr) (fun _ i _ => n - (intOf i).toNat)
 case atStart => exact ⟨0, rfl, rfl, by omega, fun j hj => by omega, HE.out.symm, Below.refl _ _⟩
 case round =>
  obtain ⟨i, rfl, rfl, hi, hall, hsc, hB⟩ := hrel
  generalize wr = wO at *
  have Y1 := Lib.hid hall
  have HSC := Lib.hid hsc
  have HB := Lib.hid hB
  clear hall hsc hB
  by_cases hlt : i < n
  . obtain ⟨g, o, rfl, hg, c0, c1, c2, c3⟩ := (HS.out.later HB.out) i hlt
    obtain ⟨ca, cl, cb, ch, hf⟩ : ∃ ca cl cb ch, f i = ⟨ca, cl, cb, ch⟩ := ⟨_, _, _, _, rfl⟩
    have TQ := HC.out i
    have HBI := HBD.out i
    rw [hf] at c0 c1 c2 c3 TQ HBI
    have HF := Lib.hid hf
    have her : (f i).err = cZ ca cl cb ch := by rw [hf]; rfl
    have MZ := Lib.hid her
    unfold r4 at TQ
    dsimp only at c0 c1 c2 c3 TQ
    have h0 := HBI.h0; have h1 := HBI.h1; have h2 := HBI.h2; have h3 := HBI.h3
    dsimp only at h0 h1 h2 h3
    have HCB : Hid (-9223372036854775808 <= cl /\ cl < 9223372036854775808 /\ -9223372036854775808 <= ch /\ ch < 9223372036854775808) := Lib.hid ⟨h0, h1, h2, h3⟩
    clear HBI h0 h1 h2 h3 hf her
    obtain ⟨e, he⟩ : ∃ e, e = cZ ca cl cb ch := ⟨_, rfl⟩
    rw [<- he] at MZ TQ
    have HEQ := Lib.hid he
    clear he
    replace TQ := Lib.hid TQ
    clear HC
    have hT : Rw wO.heap.size (l4 ca cl cb ch) wO _ := Rw.fresh (Below.refl _ _) _ 42
    unfold l4 at hT
    go_upto_region 6 with (fail)
    generalize World.alloc _ _ = W1 at hT ⊢
    have s0 := hT.cell 0 _ rfl; have s1 := hT.cell 1 _ rfl; have s2 := hT.cell 2 _ rfl; have s3 := hT.cell 3 _ rfl
    by_cases he : e = 0
    case neg =>
     have hans : E = e := by
      rw [<- HSC.out, show n - i = (n - i - 1) + 1 by omega, scan_bad (by rw [aCq (by rw [MZ.out]; exact he), MZ.out]; exact he), aCq (by rw [MZ.out]; exact he), MZ.out]
     have KY := Lib.hid hans
     clear hans
     go_wp2_with (go_at_call 49; refine (TQ.out _).mono ?_; rintro _ w1 ⟨rfl, hb⟩)
     go_ret
     exact ⟨by rw [KY.out]; rfl, bt HB.out (bt hT.below hb)⟩
    case pos =>
    subst he
    clear c0 c1 c2 c3
    go_upto_region 9 with (go_at_call 49; refine (TQ.out _).mono ?_; rintro _ w1 ⟨rfl, hb⟩; replace hT := hT.later hb; clear hb; clear s0 s1 s2 s3)
    have hat : OY f i = if UZ f i then 12 else 0 := aHF MZ.out
    obtain ⟨sb, hsb⟩ : ∃ sb, sb = UZ f i := ⟨_, rfl⟩
    rw [<- hsb] at hat
    have EY := Lib.hid hsb
    have HAT := Lib.hid hat
    clear hsb hat TQ
    go_cut [41] (fun s wx => s = .bool sb /\ Below wO.heap.size wO wx)
    case first =>
     have s0 := hT.cell 0 _ rfl; have s1 := hT.cell 1 _ rfl; have s2 := hT.cell 2 _ rfl; have s3 := hT.cell 3 _ rfl
     by_cases hz : i = 0
     . have hs0 : sb = false := by rw [EY.out, hz]; rfl
       subst hs0
       have hz2 : ¬ (0 < i) := by omega
       clear EY HAT hz
       go_wp2_with fail
       refine wp_region_held_drew (S := fun w' => Rw wO.heap.size (l4 ca cl cb ch) wO w') (by kernel_rfl) (hT.later (Below.refl _ _).drew) (fun hHeld => ?_)
       refine aG 0 21 (v := ?_) rfl rfl (by kernel_rfl) (by kernel_rfl) (by kernel_rfl) (fun _ _ _ h => h) (Or.inl ⟨by rfl, ?_⟩) (by assumption) ?_
       rotate_left
       . (intro w hSw; (try dsimp only at hSw); go_simp; try with_reducible rfl)
       try simp only [Act.put, List.setIfInBounds_toArray, List.set_cons_zero, List.set_cons_succ]
       refine aG 1 22 (v := ?_) rfl rfl (by kernel_rfl) (by kernel_rfl) (by kernel_rfl) (fun _ _ _ h => h) (Or.inl ⟨by rfl, ?_⟩) (by assumption) ?_
       rotate_left
       . (intro w hSw; (try dsimp only at hSw); go_simp; try with_reducible rfl)
       try simp only [Act.put, List.setIfInBounds_toArray, List.set_cons_zero, List.set_cons_succ]
       refine aG 2 23 (v := ?_) rfl rfl (by kernel_rfl) (by kernel_rfl) (by kernel_rfl) (fun _ _ _ h => h) (Or.inl ⟨by rfl, ?_⟩) (by assumption) ?_
       rotate_left
       . (intro w hSw; (try dsimp only at hSw); go_simp; try with_reducible rfl)
       try simp only [Act.put, List.setIfInBounds_toArray, List.set_cons_zero, List.set_cons_succ]
       refine aG 3 24 (v := undef) rfl rfl (by kernel_rfl) (by kernel_rfl) (by kernel_rfl) (fun _ _ _ h => h) (Or.inr ⟨by rfl, rfl⟩) (by assumption) ?_
       try simp only [Act.put, List.setIfInBounds_toArray, List.set_cons_zero, List.set_cons_succ]
       refine aG 4 25 (v := undef) rfl rfl (by kernel_rfl) (by kernel_rfl) (by kernel_rfl) (fun _ _ _ h => h) (Or.inr ⟨by rfl, rfl⟩) (by assumption) ?_
       try simp only [Act.put, List.setIfInBounds_toArray, List.set_cons_zero, List.set_cons_succ]
       refine aG 5 26 (v := undef) rfl rfl (by kernel_rfl) (by kernel_rfl) (by kernel_rfl) (fun _ _ _ h => h) (Or.inr ⟨by rfl, rfl⟩) (by assumption) ?_
       try simp only [Act.put, List.setIfInBounds_toArray, List.set_cons_zero, List.set_cons_succ]
       refine aG 6 27 (v := undef) rfl rfl (by kernel_rfl) (by kernel_rfl) (by kernel_rfl) (fun _ _ _ h => h) (Or.inr ⟨by rfl, rfl⟩) (by assumption) ?_
       try simp only [Act.put, List.setIfInBounds_toArray, List.set_cons_zero, List.set_cons_succ]
       refine aG 7 28 (v := undef) rfl rfl (by kernel_rfl) (by kernel_rfl) (by kernel_rfl) (fun _ _ _ h => h) (Or.inr ⟨by rfl, rfl⟩) (by assumption) ?_
       try simp only [Act.put, List.setIfInBounds_toArray, List.set_cons_zero, List.set_cons_succ]
       refine aG 8 29 (v := undef) rfl rfl (by kernel_rfl) (by kernel_rfl) (by kernel_rfl) (fun _ _ _ h => h) (Or.inr ⟨by rfl, rfl⟩) (by assumption) ?_
       try simp only [Act.put, List.setIfInBounds_toArray, List.set_cons_zero, List.set_cons_succ]
       refine aG 9 30 (v := undef) rfl rfl (by kernel_rfl) (by kernel_rfl) (by kernel_rfl) (fun _ _ _ h => h) (Or.inr ⟨by rfl, rfl⟩) (by assumption) ?_
       try simp only [Act.put, List.setIfInBounds_toArray, List.set_cons_zero, List.set_cons_succ]
       refine aG 10 31 (v := undef) rfl rfl (by kernel_rfl) (by kernel_rfl) (by kernel_rfl) (fun _ _ _ h => h) (Or.inr ⟨by rfl, rfl⟩) (by assumption) ?_
       try simp only [Act.put, List.setIfInBounds_toArray, List.set_cons_zero, List.set_cons_succ]
       refine aG 11 32 (v := undef) rfl rfl (by kernel_rfl) (by kernel_rfl) (by kernel_rfl) (fun _ _ _ h => h) (Or.inr ⟨by rfl, rfl⟩) (by assumption) ?_
       try simp only [Act.put, List.setIfInBounds_toArray, List.set_cons_zero, List.set_cons_succ]
       refine aG 12 33 (v := undef) rfl rfl (by kernel_rfl) (by kernel_rfl) (by kernel_rfl) (fun _ _ _ h => h) (Or.inr ⟨by rfl, rfl⟩) (by assumption) ?_
       try simp only [Act.put, List.setIfInBounds_toArray, List.set_cons_zero, List.set_cons_succ]
       refine aG 13 34 (v := undef) rfl rfl (by kernel_rfl) (by kernel_rfl) (by kernel_rfl) (fun _ _ _ h => h) (Or.inr ⟨by rfl, rfl⟩) (by assumption) ?_
       try simp only [Act.put, List.setIfInBounds_toArray, List.set_cons_zero, List.set_cons_succ]
       refine aG 14 35 (v := undef) rfl rfl (by kernel_rfl) (by kernel_rfl) (by kernel_rfl) (fun _ _ _ h => h) (Or.inr ⟨by rfl, rfl⟩) (by assumption) ?_
       try simp only [Act.put, List.setIfInBounds_toArray, List.set_cons_zero, List.set_cons_succ]
       refine aG 15 36 (v := undef) rfl rfl (by kernel_rfl) (by kernel_rfl) (by kernel_rfl) (fun _ _ _ h => h) (Or.inr ⟨by rfl, rfl⟩) (by assumption) ?_
       try simp only [Act.put, List.setIfInBounds_toArray, List.set_cons_zero, List.set_cons_succ]
       refine aG 16 37 (v := undef) rfl rfl (by kernel_rfl) (by kernel_rfl) (by kernel_rfl) (fun _ _ _ h => h) (Or.inr ⟨by rfl, rfl⟩) (by assumption) ?_
       try simp only [Act.put, List.setIfInBounds_toArray, List.set_cons_zero, List.set_cons_succ]
       refine aG 17 38 (v := undef) rfl rfl (by kernel_rfl) (by kernel_rfl) (by kernel_rfl) (fun _ _ _ h => h) (Or.inr ⟨by rfl, rfl⟩) (by assumption) ?_
       try simp only [Act.put, List.setIfInBounds_toArray, List.set_cons_zero, List.set_cons_succ]
       refine aG 18 39 (v := undef) rfl rfl (by kernel_rfl) (by kernel_rfl) (by kernel_rfl) (fun _ _ _ h => h) (Or.inr ⟨by rfl, rfl⟩) (by assumption) ?_
       try simp only [Act.put, List.setIfInBounds_toArray, List.set_cons_zero, List.set_cons_succ]
       refine aG 19 40 (v := undef) rfl rfl (by kernel_rfl) (by kernel_rfl) (by kernel_rfl) (fun _ _ _ h => h) (Or.inr ⟨by rfl, rfl⟩) (by assumption) ?_
       try simp only [Act.put, List.setIfInBounds_toArray, List.set_cons_zero, List.set_cons_succ]
       refine aG 20 41 (v := ?_) rfl rfl (by kernel_rfl) (by kernel_rfl) (by kernel_rfl) (fun _ _ _ h => h) (Or.inl ⟨by rfl, ?_⟩) (by assumption) ?_
       rotate_left
       . (intro w hSw; (try dsimp only at hSw); go_simp; try with_reducible rfl)
       try simp only [Act.put, List.setIfInBounds_toArray, List.set_cons_zero, List.set_cons_succ]
       refine wpAnyH_done (by kernel_rfl) ?_ _
       go_wp2_with fail
       go_meet
       exact ⟨rfl, hT.below.drew⟩
     . obtain ⟨k, hk1⟩ : ∃ k, i = k + 1 := ⟨i - 1, by omega⟩
       have hk : wrap64 ((i : Int) - 1) = (k : Int) := by unfold wrap64; omega
       have hk2 : IntKind.i64.wrap ((i : Int) - 1) = (k : Int) := by rw [IntKind.wrap_i64]; omega
       have hkn : k < n := by omega
       have hi0 : 0 < i := by omega
       have aSD : (0 : Int) <= (k : Int) := by omega
       have hkn2 : (k : Int) < (n : Int) := by omega
       obtain ⟨pa, pl, pb, ph, hp⟩ : ∃ pa pl pb ph, f k = ⟨pa, pl, pb, ph⟩ := ⟨_, _, _, _, rfl⟩
       obtain ⟨g', o', e', hg', d0, d1, d2, d3⟩ := (HS.out.later (bt HB.out hT.below)) k hkn
       cases e'
       have HBK := HBD.out k
       have hpr : cZ pa pl pb ph = 0 := by
        have := OX (Y1.out k (by omega))
        rw [hp] at this; exact this
       rw [hp] at d0 d1 d2 d3 HBK
       dsimp only at d0 d1 d2 d3
       have h0 := HBK.h0; have h1 := HBK.h1; have h2 := HBK.h2; have h3 := HBK.h3
       dsimp only at h0 h1 h2 h3
       have hst : sb = aEl pa pl pb ph ca cl cb ch := by
        rw [EY.out]; unfold UZ
        rw [show i - 1 = k by omega, hp, HF.out, decide_eq_true (show 0 < i by omega), Bool.true_and]
       unfold aEl at hst
       have CC := fun w => ZY pa pl pb ph ca cl cb ch w
       have CT := fun w => aCO pa pl pb ph ca cl cb ch w (uJ hpr) (uJ HEQ.out.symm) h0 h1 h2 h3 HCB.out.1 HCB.out.2.1 HCB.out.2.2.1 HCB.out.2.2.2
       unfold r4 at CC CT
       generalize IE pa pl pb ph ca cl cb ch = x at *
       generalize GL pa pl pb ph ca cl cb ch = y at *
       replace CC := Lib.hid CC; replace CT := Lib.hid CT
       have hM : Ms g o k pa pl pb ph wO.heap.size ca cl cb ch wO w1 := ⟨⟨hg', d0, d1, d2, d3⟩, hT⟩
       have hE := Lib.hid (hM.later (Below.refl _ _).drew)
       clear hz EY HAT hpr HBK h0 h1 h2 h3 hM hk1
       by_cases hx : 0 < x
       . rw [decide_eq_true hx, Bool.true_or] at hst
         subst hst
         clear CT
         have HW := Lib.hid hE.out
         clear hE
         go_wp2_with fail
         refine wp_region_held_drew (S := fun w' => w'.cell? ⟨g, o + k * 4, none⟩ = some (.int .i8 pa) /\ w'.cell? ⟨g, o + k * 4 + 1, none⟩ = some (.int .i64 pl) /\ w'.cell? ⟨g, o + k * 4 + 2, none⟩ = some (.int .i8 pb) /\ w'.cell? ⟨g, o + k * 4 + 3, none⟩ = some (.int .i64 ph) /\ w'.cell? ⟨wO.heap.size, 0, none⟩ = some (.int .i8 ca) /\ w'.cell? ⟨wO.heap.size, 1, none⟩ = some (.int .i64 cl) /\ w'.cell? ⟨wO.heap.size, 2, none⟩ = some (.int .i8 cb) /\ w'.cell? ⟨wO.heap.size, 3, none⟩ = some (.int .i64 ch) /\ Ms g o k pa pl pb ph wO.heap.size ca cl cb ch wO w') (by kernel_rfl) (HW.out.S) (fun hHeld => ?_)
         refine aG 0 21 (v := ?_) rfl rfl (by kernel_rfl) (by kernel_rfl) (by kernel_rfl) (fun _ _ _ h => h) (Or.inl ⟨by rfl, ?_⟩) (by assumption) ?_
         rotate_left
         . (intro w hSw; (try dsimp only at hSw); go_simp; try with_reducible rfl)
         try simp only [Act.put, List.setIfInBounds_toArray, List.set_cons_zero, List.set_cons_succ]
         refine aG 1 22 (v := ?_) rfl rfl (by kernel_rfl) (by kernel_rfl) (by kernel_rfl) (fun _ _ _ h => h) (Or.inl ⟨by rfl, ?_⟩) (by assumption) ?_
         rotate_left
         . (intro w hSw; (try dsimp only at hSw); go_simp; try with_reducible rfl)
         try simp only [Act.put, List.setIfInBounds_toArray, List.set_cons_zero, List.set_cons_succ]
         refine aG 2 23 (v := ?_) rfl rfl (by kernel_rfl) (by kernel_rfl) (by kernel_rfl) (fun _ _ _ h => h) (Or.inl ⟨by rfl, ?_⟩) (by assumption) ?_
         rotate_left
         . (intro w hSw; (try dsimp only at hSw); go_simp; try with_reducible rfl)
         try simp only [Act.put, List.setIfInBounds_toArray, List.set_cons_zero, List.set_cons_succ]
         refine aG 3 24 (v := ?_) rfl rfl (by kernel_rfl) (by kernel_rfl) (by kernel_rfl) (fun _ _ _ h => h) (Or.inl ⟨by rfl, ?_⟩) (by assumption) ?_
         rotate_left
         . (intro w hSw; (try dsimp only at hSw); go_simp; try with_reducible rfl)
         try simp only [Act.put, List.setIfInBounds_toArray, List.set_cons_zero, List.set_cons_succ]
         refine aG 4 25 (v := ?_) rfl rfl (by kernel_rfl) (by kernel_rfl) (by kernel_rfl) (fun _ _ _ h => h) (Or.inl ⟨by rfl, ?_⟩) (by assumption) ?_
         rotate_left
         . (intro w hSw; (try dsimp only at hSw); go_simp; try with_reducible rfl)
         try simp only [Act.put, List.setIfInBounds_toArray, List.set_cons_zero, List.set_cons_succ]
         refine aG 5 26 (v := ?_) rfl rfl (by kernel_rfl) (by kernel_rfl) (by kernel_rfl) (fun _ _ _ h => h) (Or.inl ⟨by rfl, ?_⟩) (by assumption) ?_
         rotate_left
         . (intro w hSw; (try dsimp only at hSw); go_simp; try with_reducible rfl)
         try simp only [Act.put, List.setIfInBounds_toArray, List.set_cons_zero, List.set_cons_succ]
         refine aG 6 27 (v := ?_) rfl rfl (by kernel_rfl) (by kernel_rfl) (by kernel_rfl) (fun _ _ _ h => h) (Or.inl ⟨by rfl, ?_⟩) (by assumption) ?_
         rotate_left
         . (intro w hSw; (try dsimp only at hSw); go_simp; try with_reducible rfl)
         try simp only [Act.put, List.setIfInBounds_toArray, List.set_cons_zero, List.set_cons_succ]
         refine aG 7 28 (v := ?_) rfl rfl (by kernel_rfl) (by kernel_rfl) (by kernel_rfl) (fun _ _ _ h => h) (Or.inl ⟨by rfl, ?_⟩) (by assumption) ?_
         rotate_left
         . (intro w hSw; (try dsimp only at hSw); go_simp; try with_reducible rfl)
         try simp only [Act.put, List.setIfInBounds_toArray, List.set_cons_zero, List.set_cons_succ]
         refine aG 8 29 (v := ?_) rfl rfl (by kernel_rfl) (by kernel_rfl) (by kernel_rfl) (fun _ _ _ h => h) (Or.inl ⟨by rfl, ?_⟩) (by assumption) ?_
         rotate_left
         . (intro w hSw; (try dsimp only at hSw); go_simp; try with_reducible rfl)
         try simp only [Act.put, List.setIfInBounds_toArray, List.set_cons_zero, List.set_cons_succ]
         refine wpAnyH_ready (rs := [9]) (by kernel_rfl) (by simp) ?_
         refine AllReadyH.cons rfl (fun K hK => ?_) AllReadyH.nil
         simp only [List.getElem_toArray, List.getElem_cons_succ, List.getElem_cons_zero]
         go_simp
         go_at_call 79
         refine (CC.out _).mono ?_; rintro _ w6 ⟨rfl, hb2⟩
         replace HW := Lib.hid (HW.out.later hb2)
         clear hb2
         refine hK.out _ _ (HW.out.S) (fun hHeld => ?_)
         clear hK K
         try simp only [Act.put, List.setIfInBounds_toArray, List.set_cons_zero, List.set_cons_succ]
         refine aG 10 31 (v := ?_) rfl rfl (by kernel_rfl) (by kernel_rfl) (by kernel_rfl) (fun _ _ _ h => h) (Or.inl ⟨by rfl, ?_⟩) (by assumption) ?_
         rotate_left
         . (intro w hSw; (try dsimp only at hSw); go_simp; try with_reducible rfl)
         try simp only [Act.put, List.setIfInBounds_toArray, List.set_cons_zero, List.set_cons_succ]
         refine aG 11 32 (v := ?_) rfl rfl (by kernel_rfl) (by kernel_rfl) (by kernel_rfl) (fun _ _ _ h => h) (Or.inl ⟨by rfl, ?_⟩) (by assumption) ?_
         rotate_left
         . (intro w hSw; (try dsimp only at hSw); go_simp; try with_reducible rfl)
         try simp only [Act.put, List.setIfInBounds_toArray, List.set_cons_zero, List.set_cons_succ]
         refine aG 12 33 (v := undef) rfl rfl (by kernel_rfl) (by kernel_rfl) (by kernel_rfl) (fun _ _ _ h => h) (Or.inr ⟨by rfl, rfl⟩) (by assumption) ?_
         try simp only [Act.put, List.setIfInBounds_toArray, List.set_cons_zero, List.set_cons_succ]
         refine aG 13 34 (v := undef) rfl rfl (by kernel_rfl) (by kernel_rfl) (by kernel_rfl) (fun _ _ _ h => h) (Or.inr ⟨by rfl, rfl⟩) (by assumption) ?_
         try simp only [Act.put, List.setIfInBounds_toArray, List.set_cons_zero, List.set_cons_succ]
         refine aG 14 35 (v := undef) rfl rfl (by kernel_rfl) (by kernel_rfl) (by kernel_rfl) (fun _ _ _ h => h) (Or.inr ⟨by rfl, rfl⟩) (by assumption) ?_
         try simp only [Act.put, List.setIfInBounds_toArray, List.set_cons_zero, List.set_cons_succ]
         refine aG 15 36 (v := undef) rfl rfl (by kernel_rfl) (by kernel_rfl) (by kernel_rfl) (fun _ _ _ h => h) (Or.inr ⟨by rfl, rfl⟩) (by assumption) ?_
         try simp only [Act.put, List.setIfInBounds_toArray, List.set_cons_zero, List.set_cons_succ]
         refine aG 16 37 (v := undef) rfl rfl (by kernel_rfl) (by kernel_rfl) (by kernel_rfl) (fun _ _ _ h => h) (Or.inr ⟨by rfl, rfl⟩) (by assumption) ?_
         try simp only [Act.put, List.setIfInBounds_toArray, List.set_cons_zero, List.set_cons_succ]
         refine aG 17 38 (v := undef) rfl rfl (by kernel_rfl) (by kernel_rfl) (by kernel_rfl) (fun _ _ _ h => h) (Or.inr ⟨by rfl, rfl⟩) (by assumption) ?_
         try simp only [Act.put, List.setIfInBounds_toArray, List.set_cons_zero, List.set_cons_succ]
         refine aG 18 39 (v := undef) rfl rfl (by kernel_rfl) (by kernel_rfl) (by kernel_rfl) (fun _ _ _ h => h) (Or.inr ⟨by rfl, rfl⟩) (by assumption) ?_
         try simp only [Act.put, List.setIfInBounds_toArray, List.set_cons_zero, List.set_cons_succ]
         refine aG 19 40 (v := ?_) rfl rfl (by kernel_rfl) (by kernel_rfl) (by kernel_rfl) (fun _ _ _ h => h) (Or.inl ⟨by rfl, ?_⟩) (by assumption) ?_
         rotate_left
         . (intro w hSw; (try dsimp only at hSw); go_simp; try with_reducible rfl)
         try simp only [Act.put, List.setIfInBounds_toArray, List.set_cons_zero, List.set_cons_succ]
         refine aG 20 41 (v := ?_) rfl rfl (by kernel_rfl) (by kernel_rfl) (by kernel_rfl) (fun _ _ _ h => h) (Or.inl ⟨by rfl, ?_⟩) (by assumption) ?_
         rotate_left
         . (intro w hSw; (try dsimp only at hSw); go_simp; try with_reducible rfl)
         try simp only [Act.put, List.setIfInBounds_toArray, List.set_cons_zero, List.set_cons_succ]
         refine wpAnyH_done (by kernel_rfl) ?_ _
         go_wp2_with fail
         go_meet
         exact ⟨rfl, HW.out.c.below⟩
       . rw [decide_eq_false hx, Bool.false_or] at hst
         subst hst
         have hx3 : decide (0 < x) = false := decide_eq_false hx
         have hx4 : x <= 0 := by omega
         clear hx
         go_wp2_with fail
         go_region_held3 (fun w' => w'.cell? ⟨g, o + k * 4, none⟩ = some (.int .i8 pa) /\ w'.cell? ⟨g, o + k * 4 + 1, none⟩ = some (.int .i64 pl) /\ w'.cell? ⟨g, o + k * 4 + 2, none⟩ = some (.int .i8 pb) /\ w'.cell? ⟨g, o + k * 4 + 3, none⟩ = some (.int .i64 ph) /\ w'.cell? ⟨wO.heap.size, 0, none⟩ = some (.int .i8 ca) /\ w'.cell? ⟨wO.heap.size, 1, none⟩ = some (.int .i64 cl) /\ w'.cell? ⟨wO.heap.size, 2, none⟩ = some (.int .i8 cb) /\ w'.cell? ⟨wO.heap.size, 3, none⟩ = some (.int .i64 ch) /\ Ms g o k pa pl pb ph wO.heap.size ca cl cb ch wO w') (first | exact hE.out.S | (have hk := ‹_ /\ _ /\ _ /\ _ /\ _ /\ _ /\ _ /\ _ /\ Ms _ _ _ _ _ _ _ _ _ _ _ _ _ _›; exact (hk.2.2.2.2.2.2.2.2.later (Below.refl _ _).drew).S) | (have hk := ‹_ /\ _ /\ _ /\ _ /\ _ /\ _ /\ _ /\ _ /\ Ms _ _ _ _ _ _ _ _ _ _ _ _ _ _›; exact (hk.2.2.2.2.2.2.2.2.later hb2).S) | exact (hE.out.later hb2).S | assumption) ((first | (go_at_call 79; refine (CC.out _).mono ?_; rintro _ w6 ⟨rfl, hb2⟩) | (go_at_call 80; refine (CT.out _).mono ?_; rintro _ w7 ⟨rfl, hb2⟩)))
         rename_i hk
         go_wp2_with fail
         go_meet
         exact ⟨by simp, hk.2.2.2.2.2.2.2.2.c.below⟩
    case rest =>
     obtain ⟨rfl, hBx⟩ := hcut
     cases sb
     . have ha0 : OY f i = 0 := by rw [HAT.out]; rfl
       have hsc : scan (OY f) (n - (i + 1)) (i + 1) = E := by
        rw [<- HSC.out, show n - i = (n - (i + 1)) + 1 by omega, scan_ok ha0]
       have aM5 := Lib.hid hsc
       have aIb : Hid (∀ j, j < i + 1 -> OY f j = 0) := Lib.hid (fun j hj => by
        by_cases hj2 : j = i
        . rw [hj2]; exact ha0
        . exact Y1.out j (by omega))
       clear hsc ha0 HSC Y1 HAT EY
       go_wp2_with fail
       go_roundw
       case rel => exact ⟨i + 1, rfl, by go_num, by omega, aIb.out, aM5.out, bt HB.out hBx⟩
       case measure => simp [intOf]; omega
     . have ha0 : OY f i = 12 := by rw [HAT.out]; rfl
       have hans : E = 12 := by
        rw [<- HSC.out, show n - i = (n - (i + 1)) + 1 by omega, scan_bad (by rw [ha0]; decide), ha0]
       have KY := Lib.hid hans
       clear hans ha0 HSC Y1 HAT EY
       go_wp2_with fail
       go_ret
       exact ⟨by rw [KY.out]; rfl, bt HB.out hBx⟩
  . have hin : i = n := by omega
    subst hin
    have hans : E = 0 := by rw [<- HSC.out, Nat.sub_self]; rfl
    have KY := Lib.hid hans
    clear hans HS
    go_wp2_with fail
    go_ret
    exact ⟨by rw [KY.out]; rfl, HB.out⟩
end Sk
end
section
open Go.RowKit Go.Lib
namespace Sk
open Un (ba bt ri rb)
open Bk (Rw)
structure Mt (g o k i : Nat) (pa pl pb ph ca cl cb ch : Int) (w W : World) : Prop where
 l : g < W.heap.size
 p : W.cell? ⟨g, o + k * 4, none⟩ = some (.int .i8 pa) /\ W.cell? ⟨g, o + k * 4 + 1, none⟩ = some (.int .i64 pl) /\ W.cell? ⟨g, o + k * 4 + 2, none⟩ = some (.int .i8 pb) /\ W.cell? ⟨g, o + k * 4 + 3, none⟩ = some (.int .i64 ph)
 c : W.cell? ⟨g, o + i * 4, none⟩ = some (.int .i8 ca) /\ W.cell? ⟨g, o + i * 4 + 1, none⟩ = some (.int .i64 cl) /\ W.cell? ⟨g, o + i * 4 + 2, none⟩ = some (.int .i8 cb) /\ W.cell? ⟨g, o + i * 4 + 3, none⟩ = some (.int .i64 ch)
 b : Below w.heap.size w W
theorem Mt.later {g o k i : Nat} {pa pl pb ph ca cl cb ch : Int} {w W W2 : World} (h : Mt g o k i pa pl pb ph ca cl cb ch w W) (hb : Below W.heap.size W W2) : Mt g o k i pa pl pb ph ca cl cb ch w W2 := by
 obtain ⟨hg, ⟨c0, c1, c2, c3⟩, ⟨d0, d1, d2, d3⟩, hB⟩ := h
 exact ⟨by have := hb.size; omega, ⟨(hb.cell (p := ⟨g, _, none⟩) hg).trans c0, (hb.cell (p := ⟨g, _, none⟩) hg).trans c1, (hb.cell (p := ⟨g, _, none⟩) hg).trans c2, (hb.cell (p := ⟨g, _, none⟩) hg).trans c3⟩, ⟨(hb.cell (p := ⟨g, _, none⟩) hg).trans d0, (hb.cell (p := ⟨g, _, none⟩) hg).trans d1, (hb.cell (p := ⟨g, _, none⟩) hg).trans d2, (hb.cell (p := ⟨g, _, none⟩) hg).trans d3⟩, bt hB hb⟩
theorem Mt.S {g o k i : Nat} {pa pl pb ph ca cl cb ch : Int} {w W : World} (h : Mt g o k i pa pl pb ph ca cl cb ch w W) :
 W.cell? ⟨g, o + k * 4, none⟩ = some (.int .i8 pa) /\ W.cell? ⟨g, o + k * 4 + 1, none⟩ = some (.int .i64 pl) /\ W.cell? ⟨g, o + k * 4 + 2, none⟩ = some (.int .i8 pb) /\ W.cell? ⟨g, o + k * 4 + 3, none⟩ = some (.int .i64 ph) /\
 W.cell? ⟨g, o + i * 4, none⟩ = some (.int .i8 ca) /\ W.cell? ⟨g, o + i * 4 + 1, none⟩ = some (.int .i64 cl) /\ W.cell? ⟨g, o + i * 4 + 2, none⟩ = some (.int .i8 cb) /\ W.cell? ⟨g, o + i * 4 + 3, none⟩ = some (.int .i64 ch) /\ Mt g o k i pa pl pb ph ca cl cb ch w W :=
 ⟨h.p.1, h.p.2.1, h.p.2.2.1, h.p.2.2.2, h.c.1, h.c.2.1, h.c.2.2.1, h.c.2.2.2, h⟩
def UY (f : Nat -> R4) (i : Nat) : Bool := decide (0 < i) && badR (f (i - 1)).a (f (i - 1)).lo (f (i - 1)).b (f (i - 1)).hi (f i).a (f i).lo (f i).b (f i).hi
theorem aHE {f : Nat -> R4} {i : Nat} (h : (f i).err = 0) : atR f i = if UY f i then 12 else 0 := by
 unfold atR UY
 rw [if_pos h]
 simp only [Bool.and_eq_true, decide_eq_true_eq]
theorem aCp {f : Nat -> R4} {i : Nat} (h : (f i).err ≠ 0) : atR f i = (f i).err := by
 unfold atR; rw [if_neg h]
theorem LM (f : Nat -> R4) (bs : Option Addr) (n cp : Nat) (w : World) (hb : ∀ j, (f j).Bd) (hs : AY w bs n f) :
 Calls Tryz.prog 44 #[.slice bs n cp] w (aP1 (kY f n) w) := by
 unfold kY
 rw [aLt hb]
 by_cases hn : 4096 < n
 . rw [if_pos hn]
   have hn2 : (4096 : Int) < n := by omega
   clear hn hs hb
   go_enter Tryz.func44, Tryz.ntmps44
   go_wp2
   go_ret
   exact ⟨rfl, Below.refl _ _⟩
 rw [if_neg hn]
 have hn2 : (n : Int) <= 4096 := by omega
 obtain ⟨E, hE⟩ : ∃ E, E = scan (atR f) n 0 := ⟨_, rfl⟩
 rw [<- hE]
 have HE := Lib.hid hE
 have HS := Lib.hid hs
 have HBD := Lib.hid hb
 have HC := Lib.hid (fun i w => xC (f i).a (f i).lo (f i).b (f i).hi w)
 clear hE hs hb hn
 go_enter Tryz.func44, Tryz.ntmps44
 go_wp2
 go_loopw [2, 3] (fun r i wr => ∃ i' : Nat, r = .int .i64 0 /\ i = .int .i64 i' /\ i' <= n /\ (∀ j, j < i' -> atR f j = 0) /\ scan (atR f) (n - i') i' = E /\ Below w.heap.size w wr) (fun _ i _ => n - (intOf i).toNat)
 case atStart => exact ⟨0, rfl, rfl, by omega, fun j hj => by omega, HE.out.symm, Below.refl _ _⟩
 case round =>
  obtain ⟨i, rfl, rfl, hi, hall, hsc, hB⟩ := hrel
  generalize wr = wO at *
  have Y1 := Lib.hid hall
  have HSC := Lib.hid hsc
  have HB := Lib.hid hB
  clear hall hsc hB
  by_cases hlt : i < n
  . obtain ⟨g, o, rfl, hg, c0, c1, c2, c3⟩ := (HS.out.later HB.out) i hlt
    obtain ⟨ca, cl, cb, ch, hf⟩ : ∃ ca cl cb ch, f i = ⟨ca, cl, cb, ch⟩ := ⟨_, _, _, _, rfl⟩
    have TQ := HC.out i
    have HBI := HBD.out i
    rw [hf] at c0 c1 c2 c3 TQ HBI
    have HF := Lib.hid hf
    have her : (f i).err = cZ ca cl cb ch := by rw [hf]; rfl
    have MZ := Lib.hid her
    unfold r4 at TQ
    dsimp only at c0 c1 c2 c3 TQ
    have h0 := HBI.h0; have h1 := HBI.h1; have h2 := HBI.h2; have h3 := HBI.h3
    dsimp only at h0 h1 h2 h3
    have HCB : Hid (-9223372036854775808 <= cl /\ cl < 9223372036854775808 /\ -9223372036854775808 <= ch /\ ch < 9223372036854775808) := Lib.hid ⟨h0, h1, h2, h3⟩
    clear HBI h0 h1 h2 h3 hf her
    obtain ⟨e, he⟩ : ∃ e, e = cZ ca cl cb ch := ⟨_, rfl⟩
    rw [<- he] at MZ TQ
    have HEQ := Lib.hid he
    clear he
    replace TQ := Lib.hid TQ
    clear HC
    by_cases he : e = 0
    case neg =>
     have hans : E = e := by
      rw [<- HSC.out, show n - i = (n - i - 1) + 1 by omega, scan_bad (by rw [aCp (by rw [MZ.out]; exact he), MZ.out]; exact he), aCp (by rw [MZ.out]; exact he), MZ.out]
     have KY := Lib.hid hans
     clear hans
     go_wp2_with (go_at_call 46; refine (TQ.out _).mono ?_; rintro _ w1 ⟨rfl, hb⟩)
     go_ret
     exact ⟨by rw [KY.out]; rfl, bt HB.out hb⟩
    case pos =>
    subst he
    go_upto_region 9 with (go_at_call 46; refine (TQ.out _).mono ?_; rintro _ w1 ⟨rfl, hb⟩)
    clear c0 c1 c2 c3 hg
    have HB1 := Lib.hid hb
    clear hb
    have hat : atR f i = if UY f i then 12 else 0 := aHE MZ.out
    obtain ⟨sb, hsb⟩ : ∃ sb, sb = UY f i := ⟨_, rfl⟩
    rw [<- hsb] at hat
    have EY := Lib.hid hsb
    have HAT := Lib.hid hat
    clear hsb hat TQ
    go_cut [50] (fun s wx => s = .bool sb /\ Below wO.heap.size wO wx)
    case first =>
     by_cases hz : i = 0
     . have hs0 : sb = false := by rw [EY.out, hz]; rfl
       subst hs0
       have hz2 : ¬ (0 < i) := by omega
       clear EY HAT hz
       go_wp2_with fail
       refine wp_region_held_drew (S := fun w' => Below wO.heap.size wO w') (by kernel_rfl) (HB1.out.drew) (fun hHeld => ?_)
       refine aG 0 22 (v := ?_) rfl rfl (by kernel_rfl) (by kernel_rfl) (by kernel_rfl) (fun _ _ _ h => h) (Or.inl ⟨by rfl, ?_⟩) (by assumption) ?_
       rotate_left
       . (intro w hSw; (try dsimp only at hSw); go_simp; try with_reducible rfl)
       try simp only [Act.put, List.setIfInBounds_toArray, List.set_cons_zero, List.set_cons_succ]
       refine aG 1 23 (v := ?_) rfl rfl (by kernel_rfl) (by kernel_rfl) (by kernel_rfl) (fun _ _ _ h => h) (Or.inl ⟨by rfl, ?_⟩) (by assumption) ?_
       rotate_left
       . (intro w hSw; (try dsimp only at hSw); go_simp; try with_reducible rfl)
       try simp only [Act.put, List.setIfInBounds_toArray, List.set_cons_zero, List.set_cons_succ]
       refine aG 2 24 (v := ?_) rfl rfl (by kernel_rfl) (by kernel_rfl) (by kernel_rfl) (fun _ _ _ h => h) (Or.inl ⟨by rfl, ?_⟩) (by assumption) ?_
       rotate_left
       . (intro w hSw; (try dsimp only at hSw); go_simp; try with_reducible rfl)
       try simp only [Act.put, List.setIfInBounds_toArray, List.set_cons_zero, List.set_cons_succ]
       refine aG 3 25 (v := undef) rfl rfl (by kernel_rfl) (by kernel_rfl) (by kernel_rfl) (fun _ _ _ h => h) (Or.inr ⟨by rfl, rfl⟩) (by assumption) ?_
       try simp only [Act.put, List.setIfInBounds_toArray, List.set_cons_zero, List.set_cons_succ]
       refine aG 4 26 (v := undef) rfl rfl (by kernel_rfl) (by kernel_rfl) (by kernel_rfl) (fun _ _ _ h => h) (Or.inr ⟨by rfl, rfl⟩) (by assumption) ?_
       try simp only [Act.put, List.setIfInBounds_toArray, List.set_cons_zero, List.set_cons_succ]
       refine aG 5 27 (v := undef) rfl rfl (by kernel_rfl) (by kernel_rfl) (by kernel_rfl) (fun _ _ _ h => h) (Or.inr ⟨by rfl, rfl⟩) (by assumption) ?_
       try simp only [Act.put, List.setIfInBounds_toArray, List.set_cons_zero, List.set_cons_succ]
       refine aG 6 28 (v := undef) rfl rfl (by kernel_rfl) (by kernel_rfl) (by kernel_rfl) (fun _ _ _ h => h) (Or.inr ⟨by rfl, rfl⟩) (by assumption) ?_
       try simp only [Act.put, List.setIfInBounds_toArray, List.set_cons_zero, List.set_cons_succ]
       refine aG 7 29 (v := undef) rfl rfl (by kernel_rfl) (by kernel_rfl) (by kernel_rfl) (fun _ _ _ h => h) (Or.inr ⟨by rfl, rfl⟩) (by assumption) ?_
       try simp only [Act.put, List.setIfInBounds_toArray, List.set_cons_zero, List.set_cons_succ]
       refine aG 8 30 (v := undef) rfl rfl (by kernel_rfl) (by kernel_rfl) (by kernel_rfl) (fun _ _ _ h => h) (Or.inr ⟨by rfl, rfl⟩) (by assumption) ?_
       try simp only [Act.put, List.setIfInBounds_toArray, List.set_cons_zero, List.set_cons_succ]
       refine aG 9 31 (v := undef) rfl rfl (by kernel_rfl) (by kernel_rfl) (by kernel_rfl) (fun _ _ _ h => h) (Or.inr ⟨by rfl, rfl⟩) (by assumption) ?_
       try simp only [Act.put, List.setIfInBounds_toArray, List.set_cons_zero, List.set_cons_succ]
       refine aG 10 32 (v := undef) rfl rfl (by kernel_rfl) (by kernel_rfl) (by kernel_rfl) (fun _ _ _ h => h) (Or.inr ⟨by rfl, rfl⟩) (by assumption) ?_
       try simp only [Act.put, List.setIfInBounds_toArray, List.set_cons_zero, List.set_cons_succ]
       refine aG 11 33 (v := undef) rfl rfl (by kernel_rfl) (by kernel_rfl) (by kernel_rfl) (fun _ _ _ h => h) (Or.inr ⟨by rfl, rfl⟩) (by assumption) ?_
       try simp only [Act.put, List.setIfInBounds_toArray, List.set_cons_zero, List.set_cons_succ]
       refine aG 12 34 (v := undef) rfl rfl (by kernel_rfl) (by kernel_rfl) (by kernel_rfl) (fun _ _ _ h => h) (Or.inr ⟨by rfl, rfl⟩) (by assumption) ?_
       try simp only [Act.put, List.setIfInBounds_toArray, List.set_cons_zero, List.set_cons_succ]
       refine aG 13 35 (v := undef) rfl rfl (by kernel_rfl) (by kernel_rfl) (by kernel_rfl) (fun _ _ _ h => h) (Or.inr ⟨by rfl, rfl⟩) (by assumption) ?_
       try simp only [Act.put, List.setIfInBounds_toArray, List.set_cons_zero, List.set_cons_succ]
       refine aG 14 36 (v := undef) rfl rfl (by kernel_rfl) (by kernel_rfl) (by kernel_rfl) (fun _ _ _ h => h) (Or.inr ⟨by rfl, rfl⟩) (by assumption) ?_
       try simp only [Act.put, List.setIfInBounds_toArray, List.set_cons_zero, List.set_cons_succ]
       refine aG 15 37 (v := undef) rfl rfl (by kernel_rfl) (by kernel_rfl) (by kernel_rfl) (fun _ _ _ h => h) (Or.inr ⟨by rfl, rfl⟩) (by assumption) ?_
       try simp only [Act.put, List.setIfInBounds_toArray, List.set_cons_zero, List.set_cons_succ]
       refine aG 16 38 (v := undef) rfl rfl (by kernel_rfl) (by kernel_rfl) (by kernel_rfl) (fun _ _ _ h => h) (Or.inr ⟨by rfl, rfl⟩) (by assumption) ?_
       try simp only [Act.put, List.setIfInBounds_toArray, List.set_cons_zero, List.set_cons_succ]
       refine aG 17 39 (v := undef) rfl rfl (by kernel_rfl) (by kernel_rfl) (by kernel_rfl) (fun _ _ _ h => h) (Or.inr ⟨by rfl, rfl⟩) (by assumption) ?_
       try simp only [Act.put, List.setIfInBounds_toArray, List.set_cons_zero, List.set_cons_succ]
       refine aG 18 40 (v := undef) rfl rfl (by kernel_rfl) (by kernel_rfl) (by kernel_rfl) (fun _ _ _ h => h) (Or.inr ⟨by rfl, rfl⟩) (by assumption) ?_
       try simp only [Act.put, List.setIfInBounds_toArray, List.set_cons_zero, List.set_cons_succ]
       refine aG 19 41 (v := undef) rfl rfl (by kernel_rfl) (by kernel_rfl) (by kernel_rfl) (fun _ _ _ h => h) (Or.inr ⟨by rfl, rfl⟩) (by assumption) ?_
       try simp only [Act.put, List.setIfInBounds_toArray, List.set_cons_zero, List.set_cons_succ]
       refine aG 20 42 (v := undef) rfl rfl (by kernel_rfl) (by kernel_rfl) (by kernel_rfl) (fun _ _ _ h => h) (Or.inr ⟨by rfl, rfl⟩) (by assumption) ?_
       try simp only [Act.put, List.setIfInBounds_toArray, List.set_cons_zero, List.set_cons_succ]
       refine aG 21 43 (v := undef) rfl rfl (by kernel_rfl) (by kernel_rfl) (by kernel_rfl) (fun _ _ _ h => h) (Or.inr ⟨by rfl, rfl⟩) (by assumption) ?_
       try simp only [Act.put, List.setIfInBounds_toArray, List.set_cons_zero, List.set_cons_succ]
       refine aG 22 44 (v := undef) rfl rfl (by kernel_rfl) (by kernel_rfl) (by kernel_rfl) (fun _ _ _ h => h) (Or.inr ⟨by rfl, rfl⟩) (by assumption) ?_
       try simp only [Act.put, List.setIfInBounds_toArray, List.set_cons_zero, List.set_cons_succ]
       refine aG 23 45 (v := undef) rfl rfl (by kernel_rfl) (by kernel_rfl) (by kernel_rfl) (fun _ _ _ h => h) (Or.inr ⟨by rfl, rfl⟩) (by assumption) ?_
       try simp only [Act.put, List.setIfInBounds_toArray, List.set_cons_zero, List.set_cons_succ]
       refine aG 24 46 (v := undef) rfl rfl (by kernel_rfl) (by kernel_rfl) (by kernel_rfl) (fun _ _ _ h => h) (Or.inr ⟨by rfl, rfl⟩) (by assumption) ?_
       try simp only [Act.put, List.setIfInBounds_toArray, List.set_cons_zero, List.set_cons_succ]
       refine aG 25 47 (v := undef) rfl rfl (by kernel_rfl) (by kernel_rfl) (by kernel_rfl) (fun _ _ _ h => h) (Or.inr ⟨by rfl, rfl⟩) (by assumption) ?_
       try simp only [Act.put, List.setIfInBounds_toArray, List.set_cons_zero, List.set_cons_succ]
       refine aG 26 48 (v := undef) rfl rfl (by kernel_rfl) (by kernel_rfl) (by kernel_rfl) (fun _ _ _ h => h) (Or.inr ⟨by rfl, rfl⟩) (by assumption) ?_
       try simp only [Act.put, List.setIfInBounds_toArray, List.set_cons_zero, List.set_cons_succ]
       refine aG 27 49 (v := undef) rfl rfl (by kernel_rfl) (by kernel_rfl) (by kernel_rfl) (fun _ _ _ h => h) (Or.inr ⟨by rfl, rfl⟩) (by assumption) ?_
       try simp only [Act.put, List.setIfInBounds_toArray, List.set_cons_zero, List.set_cons_succ]
       refine aG 28 50 (v := ?_) rfl rfl (by kernel_rfl) (by kernel_rfl) (by kernel_rfl) (fun _ _ _ h => h) (Or.inl ⟨by rfl, ?_⟩) (by assumption) ?_
       rotate_left
       . (intro w hSw; (try dsimp only at hSw); go_simp; try with_reducible rfl)
       try simp only [Act.put, List.setIfInBounds_toArray, List.set_cons_zero, List.set_cons_succ]
       refine wpAnyH_done (by kernel_rfl) ?_ _
       go_wp2_with fail
       go_meet
       exact ⟨rfl, HB1.out.drew⟩
     . obtain ⟨k, hk1⟩ : ∃ k, i = k + 1 := ⟨i - 1, by omega⟩
       have hk : wrap64 ((i : Int) - 1) = (k : Int) := by unfold wrap64; omega
       have hk2 : IntKind.i64.wrap ((i : Int) - 1) = (k : Int) := by rw [IntKind.wrap_i64]; omega
       have hkn : k < n := by omega
       have hi0 : 0 < i := by omega
       have aSD : (0 : Int) <= (k : Int) := by omega
       have hkn2 : (k : Int) < (n : Int) := by omega
       have hin1 : (0 : Int) <= (i : Int) := by omega
       have hin2 : (i : Int) < (n : Int) := by omega
       obtain ⟨pa, pl, pb, ph, hp⟩ : ∃ pa pl pb ph, f k = ⟨pa, pl, pb, ph⟩ := ⟨_, _, _, _, rfl⟩
       obtain ⟨g', o', e', hg', d0, d1, d2, d3⟩ := (HS.out.later (bt HB.out HB1.out)) k hkn
       cases e'
       obtain ⟨g', o', e', _, s0, s1, s2, s3⟩ := (HS.out.later (bt HB.out HB1.out)) i hlt
       cases e'
       rw [HF.out] at s0 s1 s2 s3
       dsimp only at s0 s1 s2 s3
       have HBK := HBD.out k
       rw [hp] at d0 d1 d2 d3 HBK
       dsimp only at d0 d1 d2 d3
       have h0 := HBK.h0; have h1 := HBK.h1; have h2 := HBK.h2; have h3 := HBK.h3
       dsimp only at h0 h1 h2 h3
       have hst : sb = badR pa pl pb ph ca cl cb ch := by
        rw [EY.out]; unfold UY
        rw [show i - 1 = k by omega, hp, HF.out, decide_eq_true (show 0 < i by omega), Bool.true_and]
       unfold badR at hst
       have CC := fun w => DY pb ph ca cl w
       have CT := fun w => aAa pa pl pb ph ca cl cb ch w h2 h3 HCB.out.2.2.1 HCB.out.2.2.2
       unfold r4 at CT
       unfold ev at CC
       generalize bG pb ph ca cl = x at *
       generalize GK pa pl pb ph ca cl cb ch = y at *
       replace CC := Lib.hid CC; replace CT := Lib.hid CT
       have hM : Mt g o k i pa pl pb ph ca cl cb ch wO w1 := ⟨hg', ⟨d0, d1, d2, d3⟩, ⟨s0, s1, s2, s3⟩, HB1.out⟩
       have hE := Lib.hid (hM.later (Below.refl _ _).drew)
       clear hz EY HAT HBK h0 h1 h2 h3 hM hk1 HB1
       by_cases hx : 0 <= x
       . rw [decide_eq_true hx, Bool.true_or] at hst
         subst hst
         clear CT
         have HW := Lib.hid hE.out
         clear hE
         go_wp2_with fail
         refine wp_region_held_drew (S := fun w' => w'.cell? ⟨g, o + k * 4, none⟩ = some (.int .i8 pa) /\ w'.cell? ⟨g, o + k * 4 + 1, none⟩ = some (.int .i64 pl) /\ w'.cell? ⟨g, o + k * 4 + 2, none⟩ = some (.int .i8 pb) /\ w'.cell? ⟨g, o + k * 4 + 3, none⟩ = some (.int .i64 ph) /\ w'.cell? ⟨g, o + i * 4, none⟩ = some (.int .i8 ca) /\ w'.cell? ⟨g, o + i * 4 + 1, none⟩ = some (.int .i64 cl) /\ w'.cell? ⟨g, o + i * 4 + 2, none⟩ = some (.int .i8 cb) /\ w'.cell? ⟨g, o + i * 4 + 3, none⟩ = some (.int .i64 ch) /\ Mt g o k i pa pl pb ph ca cl cb ch wO w') (by kernel_rfl) (HW.out.S) (fun hHeld => ?_)
         refine aG 0 22 (v := ?_) rfl rfl (by kernel_rfl) (by kernel_rfl) (by kernel_rfl) (fun _ _ _ h => h) (Or.inl ⟨by rfl, ?_⟩) (by assumption) ?_
         rotate_left
         . (intro w hSw; (try dsimp only at hSw); go_simp; try with_reducible rfl)
         try simp only [Act.put, List.setIfInBounds_toArray, List.set_cons_zero, List.set_cons_succ]
         refine aG 1 23 (v := ?_) rfl rfl (by kernel_rfl) (by kernel_rfl) (by kernel_rfl) (fun _ _ _ h => h) (Or.inl ⟨by rfl, ?_⟩) (by assumption) ?_
         rotate_left
         . (intro w hSw; (try dsimp only at hSw); go_simp; try with_reducible rfl)
         try simp only [Act.put, List.setIfInBounds_toArray, List.set_cons_zero, List.set_cons_succ]
         refine aG 2 24 (v := ?_) rfl rfl (by kernel_rfl) (by kernel_rfl) (by kernel_rfl) (fun _ _ _ h => h) (Or.inl ⟨by rfl, ?_⟩) (by assumption) ?_
         rotate_left
         . (intro w hSw; (try dsimp only at hSw); go_simp; try with_reducible rfl)
         try simp only [Act.put, List.setIfInBounds_toArray, List.set_cons_zero, List.set_cons_succ]
         refine aG 3 25 (v := ?_) rfl rfl (by kernel_rfl) (by kernel_rfl) (by kernel_rfl) (fun _ _ _ h => h) (Or.inl ⟨by rfl, ?_⟩) (by assumption) ?_
         rotate_left
         . (intro w hSw; (try dsimp only at hSw); go_simp; try with_reducible rfl)
         try simp only [Act.put, List.setIfInBounds_toArray, List.set_cons_zero, List.set_cons_succ]
         refine aG 4 26 (v := ?_) rfl rfl (by kernel_rfl) (by kernel_rfl) (by kernel_rfl) (fun _ _ _ h => h) (Or.inl ⟨by rfl, ?_⟩) (by assumption) ?_
         rotate_left
         . (intro w hSw; (try dsimp only at hSw); go_simp; try with_reducible rfl)
         try simp only [Act.put, List.setIfInBounds_toArray, List.set_cons_zero, List.set_cons_succ]
         refine aG 5 27 (v := ?_) rfl rfl (by kernel_rfl) (by kernel_rfl) (by kernel_rfl) (fun _ _ _ h => h) (Or.inl ⟨by rfl, ?_⟩) (by assumption) ?_
         rotate_left
         . (intro w hSw; (try dsimp only at hSw); go_simp; try with_reducible rfl)
         try simp only [Act.put, List.setIfInBounds_toArray, List.set_cons_zero, List.set_cons_succ]
         refine aG 6 28 (v := ?_) rfl rfl (by kernel_rfl) (by kernel_rfl) (by kernel_rfl) (fun _ _ _ h => h) (Or.inl ⟨by rfl, ?_⟩) (by assumption) ?_
         rotate_left
         . (intro w hSw; (try dsimp only at hSw); go_simp; try with_reducible rfl)
         try simp only [Act.put, List.setIfInBounds_toArray, List.set_cons_zero, List.set_cons_succ]
         refine aG 7 29 (v := ?_) rfl rfl (by kernel_rfl) (by kernel_rfl) (by kernel_rfl) (fun _ _ _ h => h) (Or.inl ⟨by rfl, ?_⟩) (by assumption) ?_
         rotate_left
         . (intro w hSw; (try dsimp only at hSw); go_simp; try with_reducible rfl)
         try simp only [Act.put, List.setIfInBounds_toArray, List.set_cons_zero, List.set_cons_succ]
         refine aG 8 30 (v := ?_) rfl rfl (by kernel_rfl) (by kernel_rfl) (by kernel_rfl) (fun _ _ _ h => h) (Or.inl ⟨by rfl, ?_⟩) (by assumption) ?_
         rotate_left
         . (intro w hSw; (try dsimp only at hSw); go_simp; try with_reducible rfl)
         try simp only [Act.put, List.setIfInBounds_toArray, List.set_cons_zero, List.set_cons_succ]
         refine aG 9 31 (v := ?_) rfl rfl (by kernel_rfl) (by kernel_rfl) (by kernel_rfl) (fun _ _ _ h => h) (Or.inl ⟨by rfl, ?_⟩) (by assumption) ?_
         rotate_left
         . (intro w hSw; (try dsimp only at hSw); go_simp; try with_reducible rfl)
         try simp only [Act.put, List.setIfInBounds_toArray, List.set_cons_zero, List.set_cons_succ]
         refine aG 10 32 (v := ?_) rfl rfl (by kernel_rfl) (by kernel_rfl) (by kernel_rfl) (fun _ _ _ h => h) (Or.inl ⟨by rfl, ?_⟩) (by assumption) ?_
         rotate_left
         . (intro w hSw; (try dsimp only at hSw); go_simp; try with_reducible rfl)
         try simp only [Act.put, List.setIfInBounds_toArray, List.set_cons_zero, List.set_cons_succ]
         refine aG 11 33 (v := ?_) rfl rfl (by kernel_rfl) (by kernel_rfl) (by kernel_rfl) (fun _ _ _ h => h) (Or.inl ⟨by rfl, ?_⟩) (by assumption) ?_
         rotate_left
         . (intro w hSw; (try dsimp only at hSw); go_simp; try with_reducible rfl)
         try simp only [Act.put, List.setIfInBounds_toArray, List.set_cons_zero, List.set_cons_succ]
         refine aG 12 34 (v := ?_) rfl rfl (by kernel_rfl) (by kernel_rfl) (by kernel_rfl) (fun _ _ _ h => h) (Or.inl ⟨by rfl, ?_⟩) (by assumption) ?_
         rotate_left
         . (intro w hSw; (try dsimp only at hSw); go_simp; try with_reducible rfl)
         try simp only [Act.put, List.setIfInBounds_toArray, List.set_cons_zero, List.set_cons_succ]
         refine aG 13 35 (v := ?_) rfl rfl (by kernel_rfl) (by kernel_rfl) (by kernel_rfl) (fun _ _ _ h => h) (Or.inl ⟨by rfl, ?_⟩) (by assumption) ?_
         rotate_left
         . (intro w hSw; (try dsimp only at hSw); go_simp; try with_reducible rfl)
         try simp only [Act.put, List.setIfInBounds_toArray, List.set_cons_zero, List.set_cons_succ]
         refine wpAnyH_ready (rs := [14]) (by kernel_rfl) (by simp) ?_
         refine AllReadyH.cons rfl (fun K hK => ?_) AllReadyH.nil
         simp only [List.getElem_toArray, List.getElem_cons_succ, List.getElem_cons_zero]
         go_simp
         go_at_call 69
         refine (CC.out _).mono ?_; rintro _ w6 ⟨rfl, hb2⟩
         replace HW := Lib.hid (HW.out.later hb2)
         clear hb2
         refine hK.out _ _ (HW.out.S) (fun hHeld => ?_)
         clear hK K
         try simp only [Act.put, List.setIfInBounds_toArray, List.set_cons_zero, List.set_cons_succ]
         refine aG 15 37 (v := ?_) rfl rfl (by kernel_rfl) (by kernel_rfl) (by kernel_rfl) (fun _ _ _ h => h) (Or.inl ⟨by rfl, ?_⟩) (by assumption) ?_
         rotate_left
         . (intro w hSw; (try dsimp only at hSw); go_simp; try with_reducible rfl)
         try simp only [Act.put, List.setIfInBounds_toArray, List.set_cons_zero, List.set_cons_succ]
         refine aG 16 38 (v := ?_) rfl rfl (by kernel_rfl) (by kernel_rfl) (by kernel_rfl) (fun _ _ _ h => h) (Or.inl ⟨by rfl, ?_⟩) (by assumption) ?_
         rotate_left
         . (intro w hSw; (try dsimp only at hSw); go_simp; try with_reducible rfl)
         try simp only [Act.put, List.setIfInBounds_toArray, List.set_cons_zero, List.set_cons_succ]
         refine aG 17 39 (v := undef) rfl rfl (by kernel_rfl) (by kernel_rfl) (by kernel_rfl) (fun _ _ _ h => h) (Or.inr ⟨by rfl, rfl⟩) (by assumption) ?_
         try simp only [Act.put, List.setIfInBounds_toArray, List.set_cons_zero, List.set_cons_succ]
         refine aG 18 40 (v := undef) rfl rfl (by kernel_rfl) (by kernel_rfl) (by kernel_rfl) (fun _ _ _ h => h) (Or.inr ⟨by rfl, rfl⟩) (by assumption) ?_
         try simp only [Act.put, List.setIfInBounds_toArray, List.set_cons_zero, List.set_cons_succ]
         refine aG 19 41 (v := undef) rfl rfl (by kernel_rfl) (by kernel_rfl) (by kernel_rfl) (fun _ _ _ h => h) (Or.inr ⟨by rfl, rfl⟩) (by assumption) ?_
         try simp only [Act.put, List.setIfInBounds_toArray, List.set_cons_zero, List.set_cons_succ]
         refine aG 20 42 (v := undef) rfl rfl (by kernel_rfl) (by kernel_rfl) (by kernel_rfl) (fun _ _ _ h => h) (Or.inr ⟨by rfl, rfl⟩) (by assumption) ?_
         try simp only [Act.put, List.setIfInBounds_toArray, List.set_cons_zero, List.set_cons_succ]
         refine aG 21 43 (v := undef) rfl rfl (by kernel_rfl) (by kernel_rfl) (by kernel_rfl) (fun _ _ _ h => h) (Or.inr ⟨by rfl, rfl⟩) (by assumption) ?_
         try simp only [Act.put, List.setIfInBounds_toArray, List.set_cons_zero, List.set_cons_succ]
         refine aG 22 44 (v := undef) rfl rfl (by kernel_rfl) (by kernel_rfl) (by kernel_rfl) (fun _ _ _ h => h) (Or.inr ⟨by rfl, rfl⟩) (by assumption) ?_
         try simp only [Act.put, List.setIfInBounds_toArray, List.set_cons_zero, List.set_cons_succ]
         refine aG 23 45 (v := undef) rfl rfl (by kernel_rfl) (by kernel_rfl) (by kernel_rfl) (fun _ _ _ h => h) (Or.inr ⟨by rfl, rfl⟩) (by assumption) ?_
         try simp only [Act.put, List.setIfInBounds_toArray, List.set_cons_zero, List.set_cons_succ]
         refine aG 24 46 (v := undef) rfl rfl (by kernel_rfl) (by kernel_rfl) (by kernel_rfl) (fun _ _ _ h => h) (Or.inr ⟨by rfl, rfl⟩) (by assumption) ?_
         try simp only [Act.put, List.setIfInBounds_toArray, List.set_cons_zero, List.set_cons_succ]
         refine aG 25 47 (v := undef) rfl rfl (by kernel_rfl) (by kernel_rfl) (by kernel_rfl) (fun _ _ _ h => h) (Or.inr ⟨by rfl, rfl⟩) (by assumption) ?_
         try simp only [Act.put, List.setIfInBounds_toArray, List.set_cons_zero, List.set_cons_succ]
         refine aG 26 48 (v := undef) rfl rfl (by kernel_rfl) (by kernel_rfl) (by kernel_rfl) (fun _ _ _ h => h) (Or.inr ⟨by rfl, rfl⟩) (by assumption) ?_
         try simp only [Act.put, List.setIfInBounds_toArray, List.set_cons_zero, List.set_cons_succ]
         refine aG 27 49 (v := ?_) rfl rfl (by kernel_rfl) (by kernel_rfl) (by kernel_rfl) (fun _ _ _ h => h) (Or.inl ⟨by rfl, ?_⟩) (by assumption) ?_
         rotate_left
         . (intro w hSw; (try dsimp only at hSw); go_simp; try with_reducible rfl)
         try simp only [Act.put, List.setIfInBounds_toArray, List.set_cons_zero, List.set_cons_succ]
         refine aG 28 50 (v := ?_) rfl rfl (by kernel_rfl) (by kernel_rfl) (by kernel_rfl) (fun _ _ _ h => h) (Or.inl ⟨by rfl, ?_⟩) (by assumption) ?_
         rotate_left
         . (intro w hSw; (try dsimp only at hSw); go_simp; try with_reducible rfl)
         try simp only [Act.put, List.setIfInBounds_toArray, List.set_cons_zero, List.set_cons_succ]
         refine wpAnyH_done (by kernel_rfl) ?_ _
         go_wp2_with fail
         go_meet
         exact ⟨rfl, HW.out.b⟩
       . rw [decide_eq_false hx, Bool.false_or] at hst
         subst hst
         have hx3 : decide (0 <= x) = false := decide_eq_false hx
         have hx4 : x < 0 := by omega
         clear hx
         go_wp2_with fail
         go_region_held3 (fun w' => w'.cell? ⟨g, o + k * 4, none⟩ = some (.int .i8 pa) /\ w'.cell? ⟨g, o + k * 4 + 1, none⟩ = some (.int .i64 pl) /\ w'.cell? ⟨g, o + k * 4 + 2, none⟩ = some (.int .i8 pb) /\ w'.cell? ⟨g, o + k * 4 + 3, none⟩ = some (.int .i64 ph) /\ w'.cell? ⟨g, o + i * 4, none⟩ = some (.int .i8 ca) /\ w'.cell? ⟨g, o + i * 4 + 1, none⟩ = some (.int .i64 cl) /\ w'.cell? ⟨g, o + i * 4 + 2, none⟩ = some (.int .i8 cb) /\ w'.cell? ⟨g, o + i * 4 + 3, none⟩ = some (.int .i64 ch) /\ Mt g o k i pa pl pb ph ca cl cb ch wO w') (first | exact hE.out.S | (have hk := ‹_ /\ _ /\ _ /\ _ /\ _ /\ _ /\ _ /\ _ /\ Mt _ _ _ _ _ _ _ _ _ _ _ _ _ _›; exact (hk.2.2.2.2.2.2.2.2.later (Below.refl _ _).drew).S) | (have hk := ‹_ /\ _ /\ _ /\ _ /\ _ /\ _ /\ _ /\ _ /\ Mt _ _ _ _ _ _ _ _ _ _ _ _ _ _›; exact (hk.2.2.2.2.2.2.2.2.later hb2).S) | exact (hE.out.later hb2).S | assumption) ((first | (go_at_call 69; refine (CC.out _).mono ?_; rintro _ w6 ⟨rfl, hb2⟩) | (go_at_call 70; refine (CT.out _).mono ?_; rintro _ w7 ⟨rfl, hb2⟩)))
         rename_i hk
         go_wp2_with fail
         go_meet
         exact ⟨by simp, hk.2.2.2.2.2.2.2.2.b⟩
    case rest =>
     obtain ⟨rfl, hBx⟩ := hcut
     cases sb
     . have ha0 : atR f i = 0 := by rw [HAT.out]; rfl
       have hsc : scan (atR f) (n - (i + 1)) (i + 1) = E := by
        rw [<- HSC.out, show n - i = (n - (i + 1)) + 1 by omega, scan_ok ha0]
       have aM5 := Lib.hid hsc
       have aIb : Hid (∀ j, j < i + 1 -> atR f j = 0) := Lib.hid (fun j hj => by
        by_cases hj2 : j = i
        . rw [hj2]; exact ha0
        . exact Y1.out j (by omega))
       clear hsc ha0 HSC Y1 HAT EY
       go_wp2_with fail
       go_roundw
       case rel => exact ⟨i + 1, rfl, by go_num, by omega, aIb.out, aM5.out, bt HB.out hBx⟩
       case measure => simp [intOf]; omega
     . have ha0 : atR f i = 12 := by rw [HAT.out]; rfl
       have hans : E = 12 := by
        rw [<- HSC.out, show n - i = (n - (i + 1)) + 1 by omega, scan_bad (by rw [ha0]; decide), ha0]
       have KY := Lib.hid hans
       clear hans ha0 HSC Y1 HAT EY
       go_wp2_with fail
       go_ret
       exact ⟨by rw [KY.out]; rfl, bt HB.out hBx⟩
  . have hin : i = n := by omega
    subst hin
    have hans : E = 0 := by rw [<- HSC.out, Nat.sub_self]; rfl
    have KY := Lib.hid hans
    clear hans HS
    go_wp2_with fail
    go_ret
    exact ⟨by rw [KY.out]; rfl, HB.out⟩
end Sk
end
section
open Go.RowKit Go.Lib
namespace Sk
open Un (ba bt ri rb)
open Bk (Rw Dt bZ hasB aZ)
def xX (d : Dt) : Bool := hasB 88 (d.dg ++ d.mo ++ d.da)
theorem XR (d : Dt) (w : World) (hs : d.mo.size <= 1000) (hy : d.dg.size <= 1000) (ha : d.da.size <= 1000) :
 Calls Tryz.prog 52 #[bZ d] w fun r w' => r = .returned (.bool (xX d)) /\ Below w.heap.size w w' := by
 have hD := Bk.Dm.new d w 37
 have HC : ∀ W, Calls Tryz.prog 84 #[.string (d.dg ++ d.mo ++ d.da), .string ⟨#[88]⟩] W fun e w' => e = .returned (.bool (hasB 88 (d.dg ++ d.mo ++ d.da))) /\ w' = W := by
  intro W
  have := Tryz.strings_Contains_one (d.dg ++ d.mo ++ d.da) 88 W
  rw [Bk.lT] at this
  exact this
 unfold xX bZ
 generalize hasB 88 (d.dg ++ d.mo ++ d.da) = b at *
 have e1 : (d.dg ++ d.mo).size = d.dg.size + d.mo.size := by simp
 have e2 : (d.dg ++ d.mo ++ d.da).size = d.dg.size + d.mo.size + d.da.size := by simp
 replace HC := Lib.hid HC
 go_enter Tryz.func52, Tryz.ntmps52
 go_upto_region 1 with (fail)
 generalize World.alloc _ _ = W0 at hD ⊢
 obtain ⟨q0, q1, q2, q3, q4, q5, q6, q7, q8, q9, qB⟩ := id hD
 go_wp2_with (go_at_call 84; with_reducible refine (HC.out _).mono ?_; rintro _ w' ⟨rfl, rfl⟩)
 go_ret
 exact ⟨rfl, hD.below⟩
theorem aLC (d : Dt) (w : World) (hs : d.mo.size <= 1000) (hy : d.dg.size <= 1000) (ha : d.da.size <= 1000) :
 Calls Tryz.prog 17 #[bZ d] w fun r w' => r = .returned (.int .i64 (if xX d then 1 else 0)) /\ Below w.heap.size w w' := by
 have hR : Rw w.heap.size (Bk.bW d) w _ := Rw.fresh (Below.refl _ _) _ 37
 have HM := fun w => Bk.QC { d with sig := 0 } w hs hy ha
 rw [show Dt.msk { d with sig := 0 } = xX d by unfold Dt.msk xX; simp] at HM
 unfold bZ at HM
 dsimp only at HM
 generalize (if xX d then (1 : Int) else 0) = R at *
 replace HM := Lib.hid HM
 unfold bZ
 unfold Bk.bW at hR
 have q0 := hR.cell 0 _ rfl; have q1 := hR.cell 1 _ rfl; have q2 := hR.cell 2 _ rfl; have q3 := hR.cell 3 _ rfl; have q4 := hR.cell 4 _ rfl; have q5 := hR.cell 5 _ rfl; have q6 := hR.cell 6 _ rfl; have q7 := hR.cell 7 _ rfl; have q8 := hR.cell 8 _ rfl; have q9 := hR.cell 9 _ rfl
 go_enter Tryz.func17, Tryz.ntmps17
 go_wp2_with (go_at_call 38; refine (HM.out _).mono ?_; rintro _ w' ⟨rfl, hb⟩)
 go_ret
 exact ⟨rfl, bt (ba (Below.refl _ _) _) hb⟩
theorem aGQ : ∃ i, Tryz.prog.info? 5 = some i := ⟨_, rfl⟩
theorem OB (k n : Nat) (hk : k = n + 1 + 1) (m0 m1 m2 : Int) : ∃ r : Bool, ∀ w, (Op.equalIn k 26 (.agg #[.int .u8 m0, .int .u8 m1, .int .u8 m2]) (.agg #[.int .u8 0, .int .u8 0, .int .u8 0])).run Tryz.prog w = .ok r w := by
 subst hk
 obtain ⟨i, hi⟩ := aGQ
 have hc : Tryz.prog.cellsOf 5 = 1 := by kernel_rfl
 by_cases h0 : m0 = 0 <;> by_cases h1 : m1 = 0 <;> by_cases h2 : m2 = 0
 all_goals
  refine ⟨?_, fun w => ?_⟩
  rotate_left
  . rw [run_equalIn_array w (n + 1) _ _ Tryz.underlying26 hi]
    simp [Op.eqItems, go_sem, hc, *]
    try rfl
theorem aHn (d : Dt) : ∃ Z : Bool, (∀ w, (binOp .eql 37 (bZ d) (bZ z0)).run Tryz.prog w = .ok (.bool Z) w) /\ (∀ w, (binOp .neq 37 (bZ d) (bZ z0)).run Tryz.prog w = .ok (.bool (!Z)) w) := by
 obtain ⟨r, hr⟩ := OB 9999 9997 rfl d.m0 d.m1 d.m2
 unfold bZ z0
 by_cases h : d.neg = false /\ d.long = false /\ d.dg.toList = [] /\ d.ex = 0 /\ d.sig = 0 /\ d.mo.toList = [] /\ d.da.toList = []
 . obtain ⟨h1, h2, h3, h4, h5, h6, h7⟩ := h
   refine ⟨r, fun w => ?_, fun w => ?_⟩
   . go_simp; cases r <;> rfl
   . go_simp; cases r <;> rfl
 . refine ⟨false, fun w => ?_, fun w => ?_⟩
   . go_simp
     exact fun h1 h2 h3 h4 h5 h6 h7 => absurd ⟨h1, h2, h3, h4, h5, h6, h7⟩ h
   . go_simp
     exact fun h1 h2 h3 h4 h5 h6 h7 => absurd ⟨h1, h2, h3, h4, h5, h6, h7⟩ h
theorem aDK (m0 m1 m2 : Int) : ∃ Z : Bool, (∀ w, (binOp .eql 26 (.agg #[.int .u8 m0, .int .u8 m1, .int .u8 m2]) (.agg #[.int .u8 0, .int .u8 0, .int .u8 0])).run Tryz.prog w = .ok (.bool Z) w) /\ (∀ w, (binOp .neq 26 (.agg #[.int .u8 m0, .int .u8 m1, .int .u8 m2]) (.agg #[.int .u8 0, .int .u8 0, .int .u8 0])).run Tryz.prog w = .ok (.bool (!Z)) w) := by
 obtain ⟨r, hr⟩ := OB 10000 9998 rfl m0 m1 m2
 refine ⟨r, fun w => ?_, fun w => ?_⟩
 . go_simp
 . go_simp
theorem aIA (a lo b hi : Int) : ∃ Z : Bool, (∀ w, (binOp .eql 42 (r4 a lo b hi) (r4 0 0 0 0)).run Tryz.prog w = .ok (.bool Z) w) /\ (∀ w, (binOp .neq 42 (r4 a lo b hi) (r4 0 0 0 0)).run Tryz.prog w = .ok (.bool (!Z)) w) := by
 unfold r4
 refine ⟨decide (a = 0 /\ lo = 0 /\ b = 0 /\ hi = 0), fun w => ?_, fun w => ?_⟩
 . go_simp
   (repeat' split) <;> simp_all
 . go_simp
   (repeat' split) <;> simp_all
def pY (k : Int) (n0 zd p0 zr : Bool) : Bool := if k = 1 then zd && p0 && zr else if k = 2 then n0 && p0 && zr else if k = 3 then n0 && zd else n0 && zd && p0
end Sk
end
section
open Go.RowKit Go.Lib
namespace Sk
open Un (ba bt ri rb aT)
open Bk (Rw Dt bZ hasB aZ qI)
theorem aB9 {d : Dt} (h : d.err ≠ 0) : 0 < d.err := by
 by_cases c : d.form = 0
 . unfold Dt.err at h ⊢
   rw [if_neg (by omega)] at h ⊢
   split at h
   . rw [if_pos (by assumption)]; omega
   . exact absurd rfl h
 . rw [Bk.vP c] at h ⊢
   unfold Dt.form at h ⊢
   have := Bk.XB d.m0 d.m1 d.m2 (Bk.comps d.mo d.da)
   (repeat' split at h) <;> (repeat' split) <;> simp_all <;> omega
theorem aLs {d : Dt} (h : d.err = 0) : 0 <= d.sig := by
 have hk := (Bk.Dt.gK (Bk.Dt.jO (Bk.XU h)).1).1
 unfold Bk.Dt.PK at hk
 rcases Bool.eq_false_or_eq_true d.long with hl | hl
 . rw [hl] at hk; exact (Bk.jD hk).2.2.2.2.2.2.2.1
 . rw [hl] at hk; exact (Bk.iF hk).2.2.2.2.2.1
def ED (p a lo b hi : Int) : Bool := !(decide (a ≠ 0) && decide (b ≠ 0)) && decide (cZ a lo b hi = 0) && (decide (a ≠ 0) || (decide ((aT p lo).2.2 = 0) && decide ((aT p lo).1 = lo))) && (decide (b ≠ 0) || (decide ((aT p hi).2.2 = 0) && decide ((aT p hi).2.1 = hi)))
theorem aB6 {p a lo b hi r x y e x' y' e' : Int} (hr : r = cZ a lo b hi) (h1 : aT p lo = (x, y, e)) (h2 : aT p hi = (x', y', e')) :
 ED p a lo b hi = (!(decide (a ≠ 0) && decide (b ≠ 0)) && decide (r = 0) && (decide (a ≠ 0) || (decide (e = 0) && decide (x = lo))) && (decide (b ≠ 0) || (decide (e' = 0) && decide (y' = hi)))) := by
 unfold ED; rw [h1, h2, <- hr]
end Sk
end
section
open Go.RowKit Go.Lib
namespace Sk
open Ev (eF DT LG gZ bJ hp QY oU uZ l_b Y5 pU aY AV Y0 EM dS bH dF iI BU)
open Bk (Dt bZ cvv)
def aBe : DT := (.node 0 (aY 8 .i64 [(pU 1)]) qz (.node 3 (qb 17) (qb 17) (.node 0 (qu 12) (.v (.int .u8 0)) (.node 3 (qb 18) (qb 18) (.node 0 (qu 0) (.v (.int .u8 1)) (.leaf qt) (.node 0 (qu 0) (.v (.int .u8 2)) (.leaf qt) (.node 0 (qu 0) (.v (.int .u8 3)) (.leaf qt) (.leaf qt)))) (.node 0 (qu 0) (.v (.int .u8 1)) (.leaf qf) (.node 0 (qu 0) (.v (.int .u8 2)) (.leaf qf) (.node 0 (qu 0) (.v (.int .u8 3)) (.leaf qt) (.leaf qt))))) (.node 3 (qb 18) (qb 18) (.node 0 (qu 0) (.v (.int .u8 1)) (.leaf qf) (.node 0 (qu 0) (.v (.int .u8 2)) (.leaf qf) (.node 0 (qu 0) (.v (.int .u8 3)) (.leaf qt) (.leaf qf)))) (.node 0 (qu 0) (.v (.int .u8 1)) (.leaf qf) (.node 0 (qu 0) (.v (.int .u8 2)) (.leaf qf) (.node 0 (qu 0) (.v (.int .u8 3)) (.leaf qt) (.leaf qf)))))) (.node 0 (qu 12) (.v (.int .u8 0)) (.node 3 (qb 18) (qb 18) (.node 0 (qu 0) (.v (.int .u8 1)) (.leaf qf) (.node 0 (qu 0) (.v (.int .u8 2)) (.leaf qt) (.node 0 (qu 0) (.v (.int .u8 3)) (.leaf qf) (.leaf qf)))) (.node 0 (qu 0) (.v (.int .u8 1)) (.leaf qf) (.node 0 (qu 0) (.v (.int .u8 2)) (.leaf qf) (.node 0 (qu 0) (.v (.int .u8 3)) (.leaf qf) (.leaf qf))))) (.node 3 (qb 18) (qb 18) (.node 0 (qu 0) (.v (.int .u8 1)) (.leaf qf) (.node 0 (qu 0) (.v (.int .u8 2)) (.leaf qf) (.node 0 (qu 0) (.v (.int .u8 3)) (.leaf qf) (.leaf qf)))) (.node 0 (qu 0) (.v (.int .u8 1)) (.leaf qf) (.node 0 (qu 0) (.v (.int .u8 2)) (.leaf qf) (.node 0 (qu 0) (.v (.int .u8 3)) (.leaf qf) (.leaf qf))))))) (.node 3 (qb 17) (qb 17) (.node 0 (qu 12) (.v (.int .u8 0)) (.node 3 (qb 18) (qb 18) (.node 0 (qu 0) (.v (.int .u8 1)) (.leaf qt) (.node 0 (qu 0) (.v (.int .u8 2)) (.leaf qf) (.node 0 (qu 0) (.v (.int .u8 3)) (.leaf qf) (.leaf qf)))) (.node 0 (qu 0) (.v (.int .u8 1)) (.leaf qf) (.node 0 (qu 0) (.v (.int .u8 2)) (.leaf qf) (.node 0 (qu 0) (.v (.int .u8 3)) (.leaf qf) (.leaf qf))))) (.node 3 (qb 18) (qb 18) (.node 0 (qu 0) (.v (.int .u8 1)) (.leaf qf) (.node 0 (qu 0) (.v (.int .u8 2)) (.leaf qf) (.node 0 (qu 0) (.v (.int .u8 3)) (.leaf qf) (.leaf qf)))) (.node 0 (qu 0) (.v (.int .u8 1)) (.leaf qf) (.node 0 (qu 0) (.v (.int .u8 2)) (.leaf qf) (.node 0 (qu 0) (.v (.int .u8 3)) (.leaf qf) (.leaf qf)))))) (.node 0 (qu 12) (.v (.int .u8 0)) (.node 3 (qb 18) (qb 18) (.node 0 (qu 0) (.v (.int .u8 1)) (.leaf qf) (.node 0 (qu 0) (.v (.int .u8 2)) (.leaf qf) (.node 0 (qu 0) (.v (.int .u8 3)) (.leaf qf) (.leaf qf)))) (.node 0 (qu 0) (.v (.int .u8 1)) (.leaf qf) (.node 0 (qu 0) (.v (.int .u8 2)) (.leaf qf) (.node 0 (qu 0) (.v (.int .u8 3)) (.leaf qf) (.leaf qf))))) (.node 3 (qb 18) (qb 18) (.node 0 (qu 0) (.v (.int .u8 1)) (.leaf qf) (.node 0 (qu 0) (.v (.int .u8 2)) (.leaf qf) (.node 0 (qu 0) (.v (.int .u8 3)) (.leaf qf) (.leaf qf)))) (.node 0 (qu 0) (.v (.int .u8 1)) (.leaf qf) (.node 0 (qu 0) (.v (.int .u8 2)) (.leaf qf) (.node 0 (qu 0) (.v (.int .u8 3)) (.leaf qf) (.leaf qf))))))))
theorem V9 (l : Value) : aBe.ok gZ l [(37, vU, .agg [qf, qf, .v (.string ⟨#[]⟩), qz, qz, .v (.string ⟨#[]⟩), .v (.string ⟨#[]⟩), .v (.int .u8 0), .v (.int .u8 0), .v (.int .u8 0)], (qb 17)), (42, (rK (qe 13) (qi 14) (qe 15) (qi 16)), (rK q8 qz q8 qz), (qb 18))] [] hp 60 LG 48 [iZ (qu 0)] [] = true := by kernel_rfl
theorem aEK (k : Int) (bs : Option Addr) (n cp : Nat) (d : Dt) (p a lo b hi : Int) (zd zr : Bool) {w0 : World} (hst : SS w0) (hd : LD 37 (bZ d) (bZ z0) zd) (hr : LD 42 (r4 a lo b hi) (r4 0 0 0 0) zr) : Same w0 48 #[(fam k (.slice bs n cp) d p a lo b hi)] (cond (((n : Nat) : Int) == 0) (cond zd (cond (p == 0) (cond zr (cond (k == 1) (.bool true) (cond (k == 2) (.bool true) (cond (k == 3) (.bool true) (.bool true)))) (cond (k == 1) (.bool false) (cond (k == 2) (.bool false) (cond (k == 3) (.bool true) (.bool true))))) (cond zr (cond (k == 1) (.bool false) (cond (k == 2) (.bool false) (cond (k == 3) (.bool true) (.bool false)))) (cond (k == 1) (.bool false) (cond (k == 2) (.bool false) (cond (k == 3) (.bool true) (.bool false)))))) (cond (p == 0) (cond zr (cond (k == 1) (.bool false) (cond (k == 2) (.bool true) (cond (k == 3) (.bool false) (.bool false)))) (cond (k == 1) (.bool false) (cond (k == 2) (.bool false) (cond (k == 3) (.bool false) (.bool false))))) (cond zr (cond (k == 1) (.bool false) (cond (k == 2) (.bool false) (cond (k == 3) (.bool false) (.bool false)))) (cond (k == 1) (.bool false) (cond (k == 2) (.bool false) (cond (k == 3) (.bool false) (.bool false))))))) (cond zd (cond (p == 0) (cond zr (cond (k == 1) (.bool true) (cond (k == 2) (.bool false) (cond (k == 3) (.bool false) (.bool false)))) (cond (k == 1) (.bool false) (cond (k == 2) (.bool false) (cond (k == 3) (.bool false) (.bool false))))) (cond zr (cond (k == 1) (.bool false) (cond (k == 2) (.bool false) (cond (k == 3) (.bool false) (.bool false)))) (cond (k == 1) (.bool false) (cond (k == 2) (.bool false) (cond (k == 3) (.bool false) (.bool false)))))) (cond (p == 0) (cond zr (cond (k == 1) (.bool false) (cond (k == 2) (.bool false) (cond (k == 3) (.bool false) (.bool false)))) (cond (k == 1) (.bool false) (cond (k == 2) (.bool false) (cond (k == 3) (.bool false) (.bool false))))) (cond zr (cond (k == 1) (.bool false) (cond (k == 2) (.bool false) (cond (k == 3) (.bool false) (.bool false)))) (cond (k == 1) (.bool false) (cond (k == 2) (.bool false) (cond (k == 3) (.bool false) (.bool false)))))))) :=
 bH (V9 (lv (lF k (.slice bs n cp) d p a lo b hi) [.bool zd, .bool zr])) (bJ w0) hst (.cons hd (fun _ _ _ => ⟨by kernel_rfl, by kernel_rfl⟩) (.cons hr (fun _ _ _ => ⟨by kernel_rfl, by kernel_rfl⟩) .nil)) .nil (dF (by kernel_rfl)) (by kernel_rfl)
def aKm : DT := (.node 1 (qu 0) (.v (.int .u8 1)) (.leaf (.v (.int .i64 18))) (.node 1 (.v (.int .u8 5)) (qu 0) (.leaf (.v (.int .i64 18))) (.node 3 (qb 17) (qb 17) (.node 0 (qi 21) qz (.node 0 (qu 0) (.v (.int .u8 1)) (.node 0 (aY 8 .i64 [(pU 1)]) qz (.leaf (.v (.int .i64 17))) (.leaf (qi 18))) (.node 0 (qu 0) (.v (.int .u8 2)) (.node 0 (qi 19) qz (.node 0 (qi 6) qz (.node 3 (qb 20) (qb 20) (.node 3 (qb 23) (qb 23) (.leaf qz) (.leaf (.v (.int .i64 1)))) (.leaf (.v (.int .i64 1)))) (.leaf (.v (.int .i64 1)))) (.leaf (qi 19))) (.node 0 (qu 0) (.v (.int .u8 3)) (.node 1 (qu 12) (.v (.int .u8 1)) (.leaf (.v (.int .i64 18))) (.node 1 (.v (.int .u8 3)) (qu 12) (.leaf (.v (.int .i64 18))) (.node 3 (qb 22) (qb 22) (.leaf qz) (.leaf (.v (.int .i64 1)))))) (.node 0 (qu 0) (.v (.int .u8 4)) (.node 0 (qe 13) (.v (.int .i8 (-1))) (.node 0 (qe 15) q8 (.leaf qz) (.leaf (.v (.int .i64 1)))) (.leaf (.v (.int .i64 1)))) (.node 0 (qu 0) (.v (.int .u8 5)) (.node 0 (qe 13) q8 (.node 0 (qe 15) (.v (.int .i8 1)) (.leaf qz) (.leaf (.v (.int .i64 1)))) (.leaf (.v (.int .i64 1)))) DT.no))))) (.node 0 (qu 0) (.v (.int .u8 1)) (.node 0 (aY 8 .i64 [(pU 1)]) qz (.leaf (.v (.int .i64 17))) (.leaf (qi 18))) (.node 0 (qu 0) (.v (.int .u8 2)) (.node 0 (qi 19) qz (.node 0 (qi 6) qz (.node 3 (qb 20) (qb 20) (.node 3 (qb 23) (qb 23) (.leaf qz) (.leaf (.v (.int .i64 1)))) (.leaf (.v (.int .i64 1)))) (.leaf (.v (.int .i64 1)))) (.leaf (qi 19))) (.node 0 (qu 0) (.v (.int .u8 3)) (.node 1 (qu 12) (.v (.int .u8 1)) (.leaf (.v (.int .i64 18))) (.node 1 (.v (.int .u8 3)) (qu 12) (.leaf (.v (.int .i64 18))) (.node 3 (qb 22) (qb 22) (.leaf qz) (.leaf (.v (.int .i64 1)))))) (.node 0 (qu 0) (.v (.int .u8 4)) (.leaf (.v (.int .i64 1))) (.node 0 (qu 0) (.v (.int .u8 5)) (.leaf (.v (.int .i64 1))) DT.no)))))) (.leaf (.v (.int .i64 5))))))
theorem aFR (l : Value) : aKm.ok gZ l [(26, .agg [(qu 9), (qu 10), (qu 11)], .agg [.v (.int .u8 0), .v (.int .u8 0), .v (.int .u8 0)], (qb 23))] [(48, [iZ (qu 0)], (qb 17)), (50, [(pU 1)], (qi 18)), (51, [vU], (qi 19)), (52, [vU], (qb 20)), (49, [(rK (qe 13) (qi 14) (qe 15) (qi 16))], (qi 21)), (53, [(rK (qe 13) (qi 14) (qe 15) (qi 16)), (qu 12)], (qb 22))] hp 60 LG 22 [iZ (qu 0)] [] = true := by kernel_rfl
theorem aPv (k : Int) (bs : Option Addr) (n cp : Nat) (d : Dt) (p a lo b hi : Int) (s er rr : Int) (U X ft zm : Bool) {w0 : World} (hst : SS w0) (hm : LD 26 (.agg #[.int .u8 d.m0, .int .u8 d.m1, .int .u8 d.m2]) (.agg #[.int .u8 0, .int .u8 0, .int .u8 0]) zm) (H0 : Same w0 48 #[(fam k (.slice bs n cp) d p a lo b hi)] (.bool U)) (H1 : Same w0 50 #[(.slice bs n cp)] (.int .i64 s)) (H2 : Same w0 51 #[(bZ d)] (.int .i64 er)) (H3 : Same w0 52 #[(bZ d)] (.bool X)) (H4 : Same w0 49 #[(r4 a lo b hi)] (.int .i64 rr)) (H5 : Same w0 53 #[(r4 a lo b hi), (.int .u8 p)] (.bool ft)) : Same w0 22 #[(fam k (.slice bs n cp) d p a lo b hi)] (cond (decide (k < 1)) (.int .i64 18) (cond (decide (5 < k)) (.int .i64 18) (cond U (cond (rr == 0) (cond (k == 1) (cond (((n : Nat) : Int) == 0) (.int .i64 17) (.int .i64 s)) (cond (k == 2) (cond (er == 0) (cond (d.sig == 0) (cond X (cond zm (.int .i64 0) (.int .i64 1)) (.int .i64 1)) (.int .i64 1)) (.int .i64 er)) (cond (k == 3) (cond (decide (p < 1)) (.int .i64 18) (cond (decide (3 < p)) (.int .i64 18) (cond ft (.int .i64 0) (.int .i64 1)))) (cond (k == 4) (cond (a == (-1)) (cond (b == 0) (.int .i64 0) (.int .i64 1)) (.int .i64 1)) (cond (k == 5) (cond (a == 0) (cond (b == 1) (.int .i64 0) (.int .i64 1)) (.int .i64 1)) (.bool false)))))) (cond (k == 1) (cond (((n : Nat) : Int) == 0) (.int .i64 17) (.int .i64 s)) (cond (k == 2) (cond (er == 0) (cond (d.sig == 0) (cond X (cond zm (.int .i64 0) (.int .i64 1)) (.int .i64 1)) (.int .i64 1)) (.int .i64 er)) (cond (k == 3) (cond (decide (p < 1)) (.int .i64 18) (cond (decide (3 < p)) (.int .i64 18) (cond ft (.int .i64 0) (.int .i64 1)))) (cond (k == 4) (.int .i64 1) (cond (k == 5) (.int .i64 1) (.bool false))))))) (.int .i64 5)))) :=
 bH (aFR (lv (lF k (.slice bs n cp) d p a lo b hi) [.bool U, .int .i64 s, .int .i64 er, .bool X, .int .i64 rr, .bool ft, .bool zm])) (bJ w0) hst (.cons hm (fun _ _ _ => ⟨by kernel_rfl, by kernel_rfl⟩) .nil) (.cons H0 (.cons H1 (.cons H2 (.cons H3 (.cons H4 (.cons H5 .nil)))))) (iI (by kernel_rfl : _ = ((((decide (k < 1)) = true -> True) /\ ((decide (k < 1)) = false -> (((decide (5 < k)) = true -> True) /\ ((decide (5 < k)) = false -> ((U = true -> (((rr == 0) = true -> (((k == 1) = true -> (((((n : Nat) : Int) == 0) = true -> True) /\ ((((n : Nat) : Int) == 0) = false -> True))) /\ ((k == 1) = false -> (((k == 2) = true -> (((er == 0) = true -> (((d.sig == 0) = true -> ((X = true -> ((zm = true -> True) /\ (zm = false -> True))) /\ (X = false -> True))) /\ ((d.sig == 0) = false -> True))) /\ ((er == 0) = false -> True))) /\ ((k == 2) = false -> (((k == 3) = true -> (((decide (p < 1)) = true -> True) /\ ((decide (p < 1)) = false -> (((decide (3 < p)) = true -> True) /\ ((decide (3 < p)) = false -> ((ft = true -> True) /\ (ft = false -> True))))))) /\ ((k == 3) = false -> (((k == 4) = true -> (((a == (-1)) = true -> (((b == 0) = true -> True) /\ ((b == 0) = false -> True))) /\ ((a == (-1)) = false -> True))) /\ ((k == 4) = false -> (((k == 5) = true -> (((a == 0) = true -> (((b == 1) = true -> True) /\ ((b == 1) = false -> True))) /\ ((a == 0) = false -> True))) /\ ((k == 5) = false -> False))))))))))) /\ ((rr == 0) = false -> (((k == 1) = true -> (((((n : Nat) : Int) == 0) = true -> True) /\ ((((n : Nat) : Int) == 0) = false -> True))) /\ ((k == 1) = false -> (((k == 2) = true -> (((er == 0) = true -> (((d.sig == 0) = true -> ((X = true -> ((zm = true -> True) /\ (zm = false -> True))) /\ (X = false -> True))) /\ ((d.sig == 0) = false -> True))) /\ ((er == 0) = false -> True))) /\ ((k == 2) = false -> (((k == 3) = true -> (((decide (p < 1)) = true -> True) /\ ((decide (p < 1)) = false -> (((decide (3 < p)) = true -> True) /\ ((decide (3 < p)) = false -> ((ft = true -> True) /\ (ft = false -> True))))))) /\ ((k == 3) = false -> (((k == 4) = true -> True) /\ ((k == 4) = false -> (((k == 5) = true -> True) /\ ((k == 5) = false -> False))))))))))))) /\ (U = false -> True)))))))) (⟨fun h0 => trivial, fun h0 => ⟨fun h1 => trivial, fun h1 => ⟨fun h2 => ⟨fun h3 => ⟨fun h4 => ⟨fun h5 => trivial, fun h5 => trivial⟩, fun h4 => ⟨fun h5 => ⟨fun h6 => ⟨fun h7 => ⟨fun h8 => ⟨fun h9 => trivial, fun h9 => trivial⟩, fun h8 => trivial⟩, fun h7 => trivial⟩, fun h6 => trivial⟩, fun h5 => ⟨fun h6 => ⟨fun h7 => trivial, fun h7 => ⟨fun h8 => trivial, fun h8 => ⟨fun h9 => trivial, fun h9 => trivial⟩⟩⟩, fun h6 => ⟨fun h7 => ⟨fun h8 => ⟨fun h9 => trivial, fun h9 => trivial⟩, fun h8 => trivial⟩, fun h7 => ⟨fun h8 => ⟨fun h9 => ⟨fun h10 => trivial, fun h10 => trivial⟩, fun h9 => trivial⟩, fun h8 => (by simp only [beq_iff_eq, beq_eq_false_iff_ne, decide_eq_true_eq, decide_eq_false_iff_not] at *; omega)⟩⟩⟩⟩⟩, fun h3 => ⟨fun h4 => ⟨fun h5 => trivial, fun h5 => trivial⟩, fun h4 => ⟨fun h5 => ⟨fun h6 => ⟨fun h7 => ⟨fun h8 => ⟨fun h9 => trivial, fun h9 => trivial⟩, fun h8 => trivial⟩, fun h7 => trivial⟩, fun h6 => trivial⟩, fun h5 => ⟨fun h6 => ⟨fun h7 => trivial, fun h7 => ⟨fun h8 => trivial, fun h8 => ⟨fun h9 => trivial, fun h9 => trivial⟩⟩⟩, fun h6 => ⟨fun h7 => trivial, fun h7 => ⟨fun h8 => trivial, fun h8 => (by simp only [beq_iff_eq, beq_eq_false_iff_ne, decide_eq_true_eq, decide_eq_false_iff_not] at *; omega)⟩⟩⟩⟩⟩⟩, fun h2 => trivial⟩⟩⟩)) (by kernel_rfl)
def aH1 : DT := (.node 0 (qe 0) q8 (.node 0 (qi 5) qz (.node 0 (qi 8) qz (.node 3 (qb 12) (qb 12) (.node 0 (qe 2) q8 (.node 0 (qi 11) qz (.node 3 (qb 13) (qb 13) (.leaf qt) (.leaf qf)) (.leaf qf)) (.leaf qt)) (.leaf qf)) (.leaf qf)) (.leaf qf)) (.node 0 (qe 2) q8 (.node 0 (qi 5) qz (.node 0 (qi 11) qz (.node 3 (qb 13) (qb 13) (.leaf qt) (.leaf qf)) (.leaf qf)) (.leaf qf)) (.leaf qf)))
theorem aDw (l : Value) : aH1.ok gZ l [(40, .agg [q8, (qi 6)], .agg [(qe 0), (qi 1)], (qb 12)), (40, .agg [q8, (qi 10)], .agg [(qe 2), (qi 3)], (qb 13))] [(49, [(rK (qe 0) (qi 1) (qe 2) (qi 3))], (qi 5)), (85, [(qi 1), (qu 4)], .aP [rK q8 (qi 6) q8 (qi 7), (qi 8)]), (85, [(qi 3), (qu 4)], .aP [rK q8 (qi 9) q8 (qi 10), (qi 11)])] hp 60 LG 53 [(rK (qe 0) (qi 1) (qe 2) (qi 3)), (qu 4)] [] = true := by kernel_rfl
theorem aMB (a lo b hi p rr x y e x2 y2 e2 : Int) (z1 z2 : Bool) {w0 : World} (hst : SS w0) (h1 : z1 = decide (0 = a /\ x = lo)) (h2 : z2 = decide (0 = b /\ y2 = hi)) (H0 : Same w0 49 #[(r4 a lo b hi)] (.int .i64 rr)) (H1 : Same w0 85 #[(.int .i64 lo), (.int .u8 p)] (.tuple #[(r4 0 x 0 y), (.int .i64 e)])) (H2 : Same w0 85 #[(.int .i64 hi), (.int .u8 p)] (.tuple #[(r4 0 x2 0 y2), (.int .i64 e2)])) : Same w0 53 #[(r4 a lo b hi), (.int .u8 p)] (cond (a == 0) (cond (rr == 0) (cond (e == 0) (cond z1 (cond (b == 0) (cond (e2 == 0) (cond z2 (.bool true) (.bool false)) (.bool false)) (.bool true)) (.bool false)) (.bool false)) (.bool false)) (cond (b == 0) (cond (rr == 0) (cond (e2 == 0) (cond z2 (.bool true) (.bool false)) (.bool false)) (.bool false)) (.bool false))) :=
 bH (aDw (.agg #[.int .i8 a, .int .i64 lo, .int .i8 b, .int .i64 hi, .int .u8 p, .int .i64 rr, .int .i64 x, .int .i64 y, .int .i64 e, .int .i64 x2, .int .i64 y2, .int .i64 e2, .bool z1, .bool z2])) (bJ w0) hst (.cons (FU _ _ _ _ _ h1) (fun _ _ _ => ⟨by kernel_rfl, by kernel_rfl⟩) (.cons (FU _ _ _ _ _ h2) (fun _ _ _ => ⟨by kernel_rfl, by kernel_rfl⟩) .nil)) (.cons H0 (.cons H1 (.cons H2 .nil))) (dF (by kernel_rfl)) (by kernel_rfl)
end Sk
end
section
open Go.RowKit Go.Lib
namespace Sk
open Un (ba bt ri rb aT)
open Bk (Rw Dt bZ hasB aZ qI)
def MP (k : Int) (n : Nat) (p a b : Int) (U : Bool) (S R ER sig : Int) (X M FT : Bool) : Int :=
 if k < 1 \/ 5 < k then 18 else if U = false then 5 else if k = 1 then (if n = 0 then 17 else S) else if k = 2 then (if ER ≠ 0 then ER else if sig = 0 /\ X = true /\ M = true then 0 else 1)
 else if k = 3 then (if p < 1 \/ 3 < p then 18 else if FT = true then 0 else 1) else if k = 4 then (if R = 0 /\ a = -1 /\ b = 0 then 0 else 1) else (if R = 0 /\ a = 0 /\ b = 1 then 0 else 1)
structure Y2 (k : Int) (bs : Option Addr) (n : Nat) (f : Nat -> R4) (d : Dt) (p a lo b hi : Int) (w : World) : Prop where
 run : AY w bs n f
 bd : ∀ j, (f j).Bd
 mo : d.mo.size <= 1000
 dg : d.dg.size <= 1000
 da : d.da.size <= 1000
 s0 : -9223372036854775808 <= d.sig
 s1 : d.sig < 9223372036854775808
 m0 : 0 <= d.m0
 m1 : 0 <= d.m1
 m2 : 0 <= d.m2
 p0 : 0 <= p
 p1 : p < 256
 h0 : -9223372036854775808 <= lo
 h1 : lo < 9223372036854775808
 h2 : -9223372036854775808 <= hi
 h3 : hi < 9223372036854775808
theorem UK (k : Int) (bs : Option Addr) (n cp : Nat) (d : Dt) (p a lo b hi : Int) {zd zr : Bool} {w0 : World} (hst : SS w0) (hd : LD 37 (bZ d) (bZ z0) zd) (hr : LD 42 (r4 a lo b hi) (r4 0 0 0 0) zr) :
 Same w0 48 #[fam k (.slice bs n cp) d p a lo b hi] (.bool (pY k (decide (n = 0)) zd (p == 0) zr)) := by
 refine Y4 (aEK k bs n cp d p a lo b hi zd zr hst hd hr) ?_
 have e0 : (((n : Nat) : Int) == 0) = decide (n = 0) := by rw [Bool.eq_iff_iff]; simp
 rw [e0]
 generalize decide (n = 0) = N
 generalize (p == 0) = P
 unfold pY
 by_cases h1 : k = 1
 . cases N <;> cases zd <;> cases P <;> cases zr <;> simp [h1]
 . by_cases h2 : k = 2
   . cases N <;> cases zd <;> cases P <;> cases zr <;> simp [h2]
   . by_cases h3 : k = 3 <;> cases N <;> cases zd <;> cases P <;> cases zr <;> simp [h1, h2, h3, Bool.cond_eq_ite]
theorem aD0 (p a lo b hi : Int) {w0 : World} (hst : SS w0) (hk : qI w0) (p0 : 0 <= p) (p1 : p < 256) (h0 : -9223372036854775808 <= lo) (h1 : lo < 9223372036854775808) (h2 : -9223372036854775808 <= hi) (h3 : hi < 9223372036854775808) :
 Same w0 53 #[r4 a lo b hi, .int .u8 p] (.bool (ED p a lo b hi)) := by
 obtain ⟨x, y, e, hA⟩ : ∃ x y e, aT p lo = (x, y, e) := ⟨_, _, _, rfl⟩
 obtain ⟨x', y', e', hB⟩ : ∃ x y e, aT p hi = (x, y, e) := ⟨_, _, _, rfl⟩
 have CH1 := fun W (hb : Below w0.heap.size w0 W) => Un.kK lo p W (hk.below hb).cal h0 h1 p0 p1
 have CH2 := fun W (hb : Below w0.heap.size w0 W) => Un.kK hi p W (hk.below hb).cal h2 h3 p0 p1
 rw [hA] at CH1
 rw [hB] at CH2
 refine Y4 (aMB a lo b hi p (cZ a lo b hi) x y e x' y' e' _ _ hst rfl rfl (fun W _ => kP a lo b hi W) CH1 CH2) ?_
 rw [aB6 rfl hA hB]
 by_cases ha : a = 0 <;> by_cases hb : b = 0 <;> by_cases g1 : cZ a lo b hi = 0 <;> by_cases g2 : e = 0 <;> by_cases g3 : e' = 0 <;> by_cases g4 : x = lo <;> by_cases g5 : y' = hi <;> simp [ha, hb, g1, g2, g3, g4, g5, Bool.cond_eq_ite, eq_comm (a := (0 : Int))]
theorem MQ (k : Int) (bs : Option Addr) (n cp : Nat) (f : Nat -> R4) (d : Dt) (p a lo b hi : Int) {zd zr M : Bool} {w0 : World} (hst : SS w0) (hw : qI w0) (h : Y2 k bs n f d p a lo b hi w0)
 (hd : LD 37 (bZ d) (bZ z0) zd) (hr : LD 42 (r4 a lo b hi) (r4 0 0 0 0) zr) (hm : LD 26 (.agg #[.int .u8 d.m0, .int .u8 d.m1, .int .u8 d.m2]) (.agg #[.int .u8 0, .int .u8 0, .int .u8 0]) M) :
 Same w0 22 #[fam k (.slice bs n cp) d p a lo b hi] (.int .i64 (MP k n p a b (pY k (decide (n = 0)) zd (p == 0) zr) (kY f n) (cZ a lo b hi) d.err d.sig (xX d) M (ED p a lo b hi))) := by
 refine Y4 (aPv k bs n cp d p a lo b hi (kY f n) d.err (cZ a lo b hi) _ (xX d) (ED p a lo b hi) M hst hm (UK k bs n cp d p a lo b hi hst hd hr) (fun W hb => PU f bs n cp W h.bd (h.run.later hb)) (fun W hb => Bk.sJ d W (hw.below hb) h.mo h.dg h.m0 h.m1 h.m2)
  (fun W _ => XR d W h.mo h.dg h.da) (fun W _ => kP a lo b hi W) (aD0 p a lo b hi hst hw h.p0 h.p1 h.h0 h.h1 h.h2 h.h3)) ?_
 generalize pY k (decide (n = 0)) zd (p == 0) zr = U
 generalize kY f n = S
 generalize cZ a lo b hi = R
 generalize d.err = ER
 generalize xX d = X
 generalize ED p a lo b hi = FT
 generalize d.sig = sg
 have e0 : (((n : Nat) : Int) == 0) = decide (n = 0) := by rw [Bool.eq_iff_iff]; simp
 rw [e0]
 unfold MP
 by_cases k1 : k < 1
 . simp [k1]
 by_cases k2 : 5 < k
 . simp [k1, k2]
 have d1 := decide_eq_false k1
 have d2 := decide_eq_false k2
 rw [d1, d2, if_neg (by omega)]
 cases U
 . rfl
 have hk5 : k = 1 \/ k = 2 \/ k = 3 \/ k = 4 \/ k = 5 := by omega
 rcases hk5 with rfl | rfl | rfl | rfl | rfl
 . by_cases hn : n = 0 <;> by_cases hR : R = 0 <;> simp [hn, hR, Bool.cond_eq_ite]
 . by_cases hR : R = 0 <;> by_cases hE : ER = 0 <;> by_cases hS : sg = 0 <;> cases X <;> cases M <;> simp [hR, hE, hS, Bool.cond_eq_ite]
 . by_cases hR : R = 0 <;> by_cases p1 : p < 1 <;> by_cases p3 : 3 < p <;> cases FT <;> simp [hR, p1, p3, Bool.cond_eq_ite]
 . by_cases hR : R = 0 <;> by_cases ha : a = -1 <;> by_cases hb : b = 0 <;> simp [hR, ha, hb, Bool.cond_eq_ite]
 . by_cases hR : R = 0 <;> by_cases ha : a = 0 <;> by_cases hb : b = 1 <;> simp [hR, ha, hb, Bool.cond_eq_ite]
end Sk
end
section
open Go.RowKit Go.Lib
namespace Bk
open Un (ba bt ri rb aX bP)
theorem aL4 {b : Nat -> Int} {v : Int} (h0 : 0 <= v) : oC b v ↔ (nd v 4 <= 0 /\ ∀ j, j < 4 -> b (3 - j) = 88 \/ b (3 - j) = 48 + nd v j % 10) := by
 have e4 : nd v 4 = v / 10000 := rfl
 constructor
 . rintro ⟨_, h1, f0, f1, f2, f3⟩
   refine ⟨by omega, fun j hj => ?_⟩
   have hf := JG v h0 h1 j hj
   obtain rfl | rfl | rfl | rfl : j = 0 \/ j = 1 \/ j = 2 \/ j = 3 := by omega
   . have := f3; unfold dB at this; rw [<- hf.2.2.2]; exact this
   . have := f2; unfold dB at this; rw [<- hf.2.2.2]; exact this
   . have := f1; unfold dB at this; rw [<- hf.2.2.2]; exact this
   . have := f0; unfold dB at this; rw [<- hf.2.2.2]; exact this
 . rintro ⟨h1, hf⟩
   have h1 : v <= 9999 := by omega
   refine JJ h0 h1 fun i hi => ?_
   have hd := JG v h0 h1 (3 - i) (by omega)
   have hj := hf (3 - i) (by omega)
   rw [show 3 - (3 - i) = i by omega] at hj hd
   unfold dB
   rw [hd.2.2.2]; exact hj
theorem aBt {d : Dt} (hy : d.dg.size <= 1000) (hk : d.PK = true) (hm : d.mask = false) : ∀ w, Calls Tryz.prog 91 #[.string d.dg, .int .i64 d.ex] w fun r w' => r = .returned (.tuple #[.int .i64 d.mag, .int .i64 1]) /\ w = w' := by
 intro w
 obtain ⟨e, he, hle, hd, hl⟩ : ∃ e : Nat, d.ex = e /\ e <= 16 /\ allB dG d.dg = true /\ d.mag <= 10000000000000000 := by
  have hk' : KZ d.neg d.long d.dg d.ex d.sig = true := hk
  cases hl : d.long
  . rw [hl] at hk'
    obtain ⟨a1, a2, a3, a4, a5, a6, a7⟩ := iF hk'
    have hd := (kT a2).1 hm
    refine ⟨0, a3, by omega, hd, ?_⟩
    unfold Dt.mag fO; rw [a3]
    have := pF hd a1
    have e : p10 (Int.toNat 0) = 1 := rfl
    rw [e]; omega
  . rw [hl] at hk'
    obtain ⟨a1, a2, a3, a4, a5, a6, a7, a8, a9⟩ := jD hk'
    exact ⟨d.ex.toNat, by omega, by omega, a3, a7⟩
 have := lS d.dg e w hy (by omega) hd
 rw [he]
 have e2 : oP (fO d.dg e) = (d.mag, 1) := by
  unfold oP; rw [show fO d.dg e = d.mag by unfold Dt.mag; rw [he], if_pos hl]
 rw [e2] at this
 exact this
theorem JK {d : Dt} (hk : d.PK = true) (hm : d.mask = true) : d.dg.size = 4 /\ allB dP d.dg = true /\ d.ex = 0 := by
 have hk' : KZ d.neg d.long d.dg d.ex d.sig = true := hk
 cases hl : d.long
 . rw [hl] at hk'
   obtain ⟨a1, a2, a3, _⟩ := iF hk'
   exact ⟨a1, a2, a3⟩
 . rw [hl] at hk'
   obtain ⟨a1, a2, a3, a4, a5, a6, a7, a8, a9⟩ := jD hk'
   have := (kT (vS a3)).2 a3
   have hm : hasB 88 d.dg = true := hm
   rw [this] at hm; cases hm
def aKZ (I : Prop) (w : World) (e : Ending) (w' : World) : Prop := ∃ x : Int, ((x = 1 /\ I) \/ (x = 0 /\ ¬ I)) /\ e = .returned (.int .i64 x) /\ Below w.heap.size w w'
theorem aIC (d : Dt) (n : Int) (w : World) (hy : d.dg.size <= 1000) (hk : d.PK = true) (hs : d.sig <= 0) (n0 : -9223372036854775808 <= n) (n1 : n < 9223372036854775808) :
 Calls Tryz.prog 98 #[yv d.neg d.long d.dg d.ex d.sig, .int .i64 n] w (aKZ (d.In n) w) := by
 have hY := Ym.new d.neg d.long d.dg d.ex d.sig w 35
 have hM := fun w => uP d.neg d.long d.dg d.ex d.sig w (by unfold maxLen; omega)
 change ∀ w, Calls _ _ _ w fun r w' => r = .returned (.int .i64 (if d.mask then 1 else 0)) /\ _ at hM
 have hbd : d.In n -> -10000000000000000 <= n /\ n <= 10000000000000000 := fun h => Dt.tH hk h
 cases hm : d.mask
 . have HG := Lib.hid (aBt hy hk hm)
   have hI : d.In n ↔ n = (if d.neg = true then -d.mag else d.mag) := by unfold Dt.In; rw [hm]; simp
   have mp : 0 <= d.mag := lZ _ _
   have mp2 : d.mag <= 10000000000000000 := by
    have hx : d.In (if d.neg = true then -d.mag else d.mag) := by unfold Dt.In; rw [hm]; simp
    have := Dt.tH hk hx
    split at this <;> omega
   rw [hm] at hM
   have HM := Lib.hid hM
   generalize d.In n = I at *
   generalize d.mag = m at *
   clear hM hm hk
   generalize d.neg = neg at *
   generalize d.long = long at *
   generalize d.dg = s at *
   generalize d.ex = ex at *
   generalize d.sig = sig at *
   have HI := Lib.hid hI
   have HBD := Lib.hid hbd
   clear hI hbd
   unfold yv
   cases neg
   all_goals
    as_aux_lemma =>
     go_enter Tryz.func98, Tryz.ntmps98
     go_upto_region 1 with (fail)
     generalize World.alloc _ _ = W0 at hY ⊢
     obtain ⟨q0, q1, q2, q3, q4, qB⟩ := id hY
     go_wp2_with (first
      | (go_at_call 122; with_reducible refine (HM.out _).mono ?_; rintro _ w' ⟨rfl, hb⟩; replace hY := hY.later (by first | exact hb | exact bt (Below.refl _ _).drew hb | exact bt (Below.refl _ _).drew.drew hb); clear hb; obtain ⟨q0, q1, q2, q3, q4, qB⟩ := id hY)
      | (go_at_call 91; with_reducible refine (HG.out _).mono ?_; rintro _ w' ⟨rfl, rfl⟩))
     rotate_left
     go_quiet (fail)
     go_wp2
     all_goals go_ret
     all_goals
      refine ⟨_, ?_, rfl, by first | exact hY.below | exact below_drewN hY.below _⟩
      have hI := HI.out
      have hbd := HBD.out
      first
      | exact .inl ⟨rfl, hI.2 (by (try simp only [beq_iff_eq, bne_iff_ne, beq_eq_false_iff_ne, decide_eq_true_eq, decide_eq_false_iff_not, Bool.not_eq_true, Bool.and_eq_true, Bool.or_eq_true, ne_eq, if_true, if_false, reduceCtorEq] at *); omega)⟩
      | exact .inr ⟨rfl, fun c => by have h1 := hI.1 c; have h2 := hbd c; (try simp only [beq_iff_eq, bne_iff_ne, beq_eq_false_iff_ne, decide_eq_true_eq, decide_eq_false_iff_not, Bool.not_eq_true, Bool.and_eq_true, Bool.or_eq_true, ne_eq, if_true, if_false, reduceCtorEq] at *); omega⟩
 . obtain ⟨h4, hx, -⟩ := JK hk hm
   rw [hm] at hM
   have HM := Lib.hid hM
   obtain ⟨v, hv⟩ : ∃ v, v = (if d.neg = true then -n else n) := ⟨_, rfl⟩
   have hI : d.In n ↔ (oC (aZ d.dg) v /\ (d.neg = true -> v ≠ 0)) := by
    unfold Dt.In; rw [hm, if_pos rfl, hv]
    cases d.neg
    . simp
    . simp only [if_true]
      exact ⟨fun h => ⟨h.1, fun _ => by omega⟩, fun h => ⟨h.1, by have := h.2 (by trivial); omega⟩⟩
   have hnd : ∀ k, k < 4 -> nd v (k + 1) = nd v k / 10 := fun k hk => by
    obtain rfl | rfl | rfl | rfl : k = 0 \/ k = 1 \/ k = 2 \/ k = 3 := by omega
    . rfl
    . show v / 100 = v / 10 / 10; omega
    . show v / 1000 = v / 100 / 10; omega
    . show v / 10000 = v / 1000 / 10; omega
   have hn0 : ∀ k, k <= 4 -> 0 <= v -> v <= 10000000000000000 -> 0 <= nd v k /\ nd v k <= 10000000000000000 := fun k hk h0 h1 => by
    obtain rfl | rfl | rfl | rfl | rfl : k = 0 \/ k = 1 \/ k = 2 \/ k = 3 \/ k = 4 := by omega
    . exact ⟨h0, h1⟩
    . show 0 <= v / 10 /\ v / 10 <= _; omega
    . show 0 <= v / 100 /\ v / 100 <= _; omega
    . show 0 <= v / 1000 /\ v / 1000 <= _; omega
    . show 0 <= v / 10000 /\ v / 10000 <= _; omega
   have aPl : 0 <= v -> (oC (aZ d.dg) v ↔ (nd v 4 <= 0 /\ ∀ j, j < 4 -> aZ d.dg (3 - j) = 88 \/ aZ d.dg (3 - j) = 48 + nd v j % 10)) := fun h => aL4 h
   have hmb : oC (aZ d.dg) v -> 0 <= v /\ v <= 9999 := fun h => ⟨h.1, h.2.1⟩
   have hst : nd v 0 = v := rfl
   generalize d.In n = I at *
   generalize oC (aZ d.dg) v = M at *
   generalize nd v = N at *
   clear hM hm hk
   generalize d.neg = neg at *
   generalize d.long = long at *
   generalize d.dg = s at *
   generalize d.ex = ex at *
   generalize d.sig = sig at *
   have HI := Lib.hid hI
   have HMB := Lib.hid hmb
   have aP7 := Lib.hid aPl
   have HND := Lib.hid hnd
   have HN0 := Lib.hid hn0
   have HST := Lib.hid hst
   clear hI hbd hmb aPl hnd hn0 hst hx
   unfold yv
   cases neg
   all_goals
    simp only [if_true, if_false, reduceCtorEq] at hv
    as_aux_lemma =>
     go_enter Tryz.func98, Tryz.ntmps98
     go_upto_region 1 with (fail)
     generalize World.alloc _ _ = W0 at hY ⊢
     obtain ⟨q0, q1, q2, q3, q4, qB⟩ := id hY
     go_wp2_with (go_at_call 122; with_reducible refine (HM.out _).mono ?_; rintro _ w' ⟨rfl, hb⟩; replace hY := hY.later (by first | exact hb | exact bt (Below.refl _ _).drew hb | exact bt (Below.refl _ _).drew.drew hb | exact bt (Below.refl _ _).drew.drew.drew hb); clear hb; obtain ⟨q0, q1, q2, q3, q4, qB⟩ := id hY)
     any_goals
      (go_ret
       refine ⟨_, ?_, rfl, hY.below⟩
       have hI := HI.out
       have hmb := HMB.out
       exact .inr ⟨rfl, fun c => by have h1 := hI.1 c; have h2 := hmb h1.1; have h3 := h1.2; (try simp only [beq_iff_eq, bne_iff_ne, bne_eq_false_iff_eq, beq_eq_false_iff_ne, decide_eq_true_eq, decide_eq_false_iff_not, Bool.not_eq_true, Bool.and_eq_true, Bool.or_eq_true, ne_eq, forall_const, reduceCtorEq, false_implies, implies_true] at *); omega⟩)
     have hvn : 0 <= v /\ v <= 10000000000000000 /\ v ≠ 0 \/ 0 <= v /\ v <= 10000000000000000 /\ v = n := by (try simp only [beq_iff_eq, bne_iff_ne, bne_eq_false_iff_eq, beq_eq_false_iff_ne, decide_eq_true_eq, decide_eq_false_iff_not, Bool.not_eq_true, Bool.and_eq_true, Bool.or_eq_true, ne_eq] at *); omega
     have HVN : Hid (I ↔ M) := Lib.hid (by
      have hI := HI.out
      rcases hvn with ⟨_, _, hne⟩ | ⟨_, _, he⟩
      . exact hI.trans ⟨fun h => h.1, fun h => ⟨h, fun _ => hne⟩⟩
      . refine hI.trans ⟨fun h => h.1, fun h => ⟨h, fun c => ?_⟩⟩
        first | (cases c; done) | ((try simp only [beq_iff_eq, bne_iff_ne, bne_eq_false_iff_eq, beq_eq_false_iff_ne, decide_eq_true_eq, decide_eq_false_iff_not, Bool.not_eq_true, Bool.and_eq_true, Bool.or_eq_true, ne_eq] at *); omega))
     have v0 : 0 <= v := by omega
     have v1 : v <= 10000000000000000 := by omega
     clear hvn HI HM
     have HM4 := Lib.hid (aP7.out v0)
     have HB : Hid (∀ k, k <= 4 -> 0 <= N k /\ N k <= 10000000000000000) := Lib.hid (fun k hk => HN0.out k hk v0 v1)
     clear HN0 aP7 HMB
     have HW := Lib.hid hY.below
     go_loop [1, 5] (fun nv iv => ∃ k : Nat, k <= 4 /\ iv = .int .i64 (3 - (k : Int)) /\ nv = .int .i64 (N k) /\ ∀ j, j < k -> aZ s (3 - j) = 88 \/ aZ s (3 - j) = 48 + N j % 10) (fun _ iv => (intOf iv + 1).toNat)
     case atStart => exact ⟨0, by omega, rfl, congrArg _ (by rw [HST.out]; omega), fun j h => by omega⟩
     case round =>
      obtain ⟨k, hk, rfl, rfl, hj⟩ := hrel
      have HJ := Lib.hid hj
      have b0 := HB.out k hk
      clear hj
      have hk5 : k = 0 \/ k = 1 \/ k = 2 \/ k = 3 \/ k = 4 := by omega
      by_cases k4 : k = 4
      . subst k4
        by_cases hz : 0 < N 4
        . have HR : Hid (¬ I) := Lib.hid (fun c => by have := (HM4.out.1 (HVN.out.1 c)).1; omega)
          clear hk5
          generalize N 4 = x at *
          rw [show (3 : Int) - ((4 : Nat) : Int) = -1 by omega]
          go_wp2
          go_ret
          exact ⟨_, .inr ⟨rfl, HR.out⟩, rfl, HW.out⟩
        . have HR : Hid I := Lib.hid (HVN.out.2 (HM4.out.2 ⟨by omega, HJ.out⟩))
          clear hk5
          generalize N 4 = x at *
          rw [show (3 : Int) - ((4 : Nat) : Int) = -1 by omega]
          go_wp2
          go_ret
          exact ⟨_, .inl ⟨rfl, HR.out⟩, rfl, HW.out⟩
      . have l3 : 3 - k < s.size := by omega
        have hb := bY s (3 - k) l3
        have HE := Lib.hid (HND.out k (by omega))
        have bb := aMV s (3 - k)
        have HNO : Hid (¬ (aZ s (3 - k) = 88 \/ aZ s (3 - k) = 48 + N k % 10) -> ¬ I) := Lib.hid (fun h c => h ((HM4.out.1 (HVN.out.1 c)).2 k (by omega)))
        have HOK : Hid ((aZ s (3 - k) = 88 \/ aZ s (3 - k) = 48 + N k % 10) -> ∀ j, j < k + 1 -> aZ s (3 - j) = 88 \/ aZ s (3 - j) = 48 + N j % 10) := Lib.hid (fun h j hj => by
         by_cases e : j = k
         . subst e; exact h
         . exact HJ.out j (by omega))
        have e3 : (3 : Int) - (k : Int) = ((3 - k : Nat) : Int) := by omega
        rw [e3]
        have hm2 : (3 - k : Nat) = 3 - k := rfl
        generalize hq : 3 - k = q at *
        have Q3 := Lib.hid e3
        clear hk5 hm2 hq e3 HB HM4 HJ HND
        generalize N k = x at *
        obtain ⟨x0, x1⟩ := b0
        have m0 : 0 <= x % 10 := by omega
        have m1 : x % 10 <= 9 := by omega
        have HBQ := Lib.hid hb
        clear hb bb
        have K4 := Lib.hid k4
        clear k4
        by_cases c1 : ((s[q]'l3).toNat : Int) = 88
        . go_wp2
          go_round
          case rel => exact ⟨k + 1, by have := K4.out; omega, congrArg _ (by have := Q3.out; omega), congrArg _ HE.out.symm, HOK.out (.inl (by rw [HBQ.out]; exact c1))⟩
          case measure => first | (simp [intOf]; done) | (simp [intOf]; omega)
        . by_cases c2 : ((s[q]'l3).toNat : Int) = 48 + x % 10
          . go_wp2
            go_round
            case rel => exact ⟨k + 1, by have := K4.out; omega, congrArg _ (by have := Q3.out; omega), congrArg _ HE.out.symm, HOK.out (.inr (by rw [HBQ.out]; exact c2))⟩
            case measure => first | (simp [intOf]; done) | (simp [intOf]; omega)
          . have HR := Lib.hid (HNO.out (by rw [HBQ.out]; omega))
            go_wp2
            all_goals first
             | (go_ret; exact ⟨_, .inr ⟨rfl, HR.out⟩, rfl, HW.out⟩)
             | (exfalso; (try simp only [beq_iff_eq, bne_iff_ne, bne_eq_false_iff_eq, beq_eq_false_iff_ne, decide_eq_true_eq, decide_eq_false_iff_not, Bool.not_eq_true, Bool.and_eq_true, Bool.or_eq_true, ne_eq] at *); omega)
end Bk
end
section
open Go.RowKit Go.Lib
namespace Bk
open Un (ba bt ri rb aX bP)
theorem SQ (s : ByteArray) (k : Nat) (h : k < s.size) : (s.extract k (k + 1)).data.toList = [s[k]'h] := by
 rw [ByteArray.data_extract, Array.toList_extract]
 have : s.data.toList.extract k (k + 1) = [s[k]'h] := by
  rw [List.extract_eq_take_drop, show k + 1 - k = 1 by omega, List.take_one, List.head?_drop, List.getElem?_eq_getElem (by simpa using h)]
  rfl
 exact this
theorem JU (s : ByteArray) (x : UInt8) : ∀ k, k <= s.size -> (L6 s x k).data.toList = (List.range k).map fun i => if aZ s i = 88 then x else s.data.toList.getD i 0
 | 0, _ => rfl
 | k + 1, h => by
  rw [JR, ByteArray.data_append, Array.toList_append, JU s x k (by omega), List.range_succ, List.map_append]
  congr 1
  by_cases c : aZ s k = 88
  . rw [if_pos c]; simp [c]
  . rw [if_neg c, SQ s k (by omega)]
    simp only [List.map_cons, List.map_nil, if_neg c]
    rw [List.getD_eq_getElem?_getD, List.getElem?_eq_getElem (by simp; omega)]; rfl
theorem zM (s : ByteArray) (x : UInt8) (k : Nat) (h : k <= s.size) : (L6 s x k).size = k := by
 have := congrArg List.length (JU s x k h)
 simpa using this
theorem FH (s : ByteArray) (x : UInt8) (k : Nat) (h : k <= s.size) (i : Nat) (hi : i < k) : aZ (L6 s x k) i = if aZ s i = 88 then (x.toNat : Int) else aZ s i := by
 rw [rG (JU s x k h), List.getD_eq_getElem?_getD, List.getElem?_map, List.getElem?_range hi]
 show ((if aZ s i = 88 then x else s.data.toList.getD i 0).toNat : Int) = _
 split
 . rfl
 . rfl
theorem aMM {s : ByteArray} (h4 : s.size = 4) (hd : allB dG s = true) : gB s = dD (aZ s) := by
 have h : ∀ i, i < 4 -> 48 <= aZ s i /\ aZ s i <= 57 := fun i hi => by
  have := (mG _ _).1 hd i (by omega)
  exact of_decide_eq_true this
 have hl : s.data.toList.length = 4 := by simpa using h4
 match e : s.data.toList, hl with
 | [a, b, c, d], _ =>
  have h0 := h 0 (by omega); have h1 := h 1 (by omega); have h2 := h 2 (by omega); have h3 := h 3 (by omega)
  rw [rG e] at h0 h1 h2 h3
  unfold gB dD
  rw [rG e, rG e, rG e, rG e, e]
  simp only [dec, List.getD_cons_zero, List.getD_cons_succ] at *
  omega
theorem aBG {s : ByteArray} {x : UInt8} (h4 : s.size = 4) (hx : allB dP s = true) (h0 : 48 <= x.toNat) (h1 : x.toNat <= 57) : allB dG (L6 s x 4) = true := by
 rw [mG]
 intro i hi
 rw [zM s x 4 (by omega)] at hi
 rw [FH s x 4 (by omega) i hi]
 have := KE hx i (by omega)
 unfold dG
 split
 . exact decide_eq_true (by omega)
 . exact decide_eq_true (by omega)
theorem aSn {s : ByteArray} (h4 : s.size = 4) (hd : allB dG s = true) : fO s 0 = dD (aZ s) := by
 unfold fO; rw [show (0 : Int).toNat = 0 from rfl, aMM h4 hd]; unfold p10; simp
def z4 : ByteArray := ⟨#[48, 48, 48, 48]⟩
def aIM (j : Nat) : ByteArray := z4.extract 0 j ++ ⟨#[49]⟩ ++ z4.extract (j + 1) 4
theorem aAj : ∀ j : Nat, j < 4 -> (aIM j).size = 4 /\ allB dG (aIM j) = true /\ (∀ i : Nat, i < 4 -> aZ (aIM j) i = if i = j then 49 else 48) := by decide
theorem aDO {b : Nat -> Int} {f : Int} {j : Nat} (hj : j < 4) (hf : oC b f) (hn : f ≠ 0) (hz : ∀ i, i < 4 -> b i = 88 \/ b i = 48) (hl : ∀ i, j < i -> i < 4 -> b i ≠ 88) {o : Nat -> Int} (ho : ∀ i, i < 4 -> o i = if i = j then 49 else 48) : dD o <= f := by
 obtain ⟨d0, d1, d2, d3, a0, a1, a2, a3, a4, a5, a6, a7, hv, e0, e1, e2, e3⟩ := (nH b f).1 hf
 have z0 := hz 0 (by omega); have z1 := hz 1 (by omega); have z2 := hz 2 (by omega); have z3 := hz 3 (by omega)
 have o0 := ho 0 (by omega); have o1 := ho 1 (by omega); have o2 := ho 2 (by omega); have o3 := ho 3 (by omega)
 unfold dD
 obtain rfl | rfl | rfl | rfl : j = 0 \/ j = 1 \/ j = 2 \/ j = 3 := by omega
 . have l1 := hl 1 (by omega) (by omega); have l2 := hl 2 (by omega) (by omega); have l3 := hl 3 (by omega) (by omega)
   simp at o0 o1 o2 o3; omega
 . have l2 := hl 2 (by omega) (by omega); have l3 := hl 3 (by omega) (by omega)
   simp at o0 o1 o2 o3; omega
 . have l3 := hl 3 (by omega) (by omega)
   simp at o0 o1 o2 o3; omega
 . simp at o0 o1 o2 o3; omega
def TK (d : Dt) (w : World) (e : Ending) (w' : World) : Prop := ∃ a b : Int, (∀ y, d.In y -> a <= y /\ y <= b) /\ -10000000000000000 <= a /\ b <= 10000000000000000 /\ e = .returned (.tuple #[.int .i64 a, .int .i64 b]) /\ Below w.heap.size w w'
theorem aDc (d : Dt) (w : World) (hy : d.dg.size <= 1000) (hk : d.PK = true) (hs : d.sig <= 0) :
 Calls Tryz.prog 97 #[yv d.neg d.long d.dg d.ex d.sig] w (TK d w) := by
 have hY := Ym.new d.neg d.long d.dg d.ex d.sig w 35
 have hM := fun w => uP d.neg d.long d.dg d.ex d.sig w (by unfold maxLen; omega)
 change ∀ w, Calls _ _ _ w fun r w' => r = .returned (.int .i64 (if d.mask then 1 else 0)) /\ _ at hM
 cases hm : d.mask
 . have HG := Lib.hid (aBt hy hk hm)
   have hI : ∀ y, d.In y -> y = (if d.neg = true then -d.mag else d.mag) := fun y => by unfold Dt.In; rw [hm]; simp
   have mp : 0 <= d.mag := lZ _ _
   have mp2 : d.mag <= 10000000000000000 := by
    have hx : d.In (if d.neg = true then -d.mag else d.mag) := by unfold Dt.In; rw [hm]; simp
    have := Dt.tH hk hx
    split at this <;> omega
   rw [hm] at hM
   have HM := Lib.hid hM
   unfold TK
   generalize d.In = I at *
   generalize d.mag = m at *
   clear hM hm hk
   generalize d.neg = neg at *
   generalize d.long = long at *
   generalize d.dg = s at *
   generalize d.ex = ex at *
   generalize d.sig = sig at *
   have HI := Lib.hid hI
   clear hI
   unfold yv
   cases neg
   all_goals
    as_aux_lemma =>
     go_enter Tryz.func97, Tryz.ntmps97
     go_upto_region 1 with (fail)
     generalize World.alloc _ _ = W0 at hY ⊢
     obtain ⟨q0, q1, q2, q3, q4, qB⟩ := id hY
     go_wp2_with (first
      | (go_at_call 122; with_reducible refine (HM.out _).mono ?_; rintro _ w' ⟨rfl, hb⟩; replace hY := hY.later (by first | exact hb | exact bt (Below.refl _ _).drew hb | exact bt (Below.refl _ _).drew.drew hb | exact bt (Below.refl _ _).drew.drew.drew hb); clear hb; obtain ⟨q0, q1, q2, q3, q4, qB⟩ := id hY)
      | (go_at_call 91; with_reducible refine (HG.out _).mono ?_; rintro _ w' ⟨rfl, rfl⟩))
     go_quiet (fail)
     go_wp2_with (first
      | (go_at_call 122; with_reducible refine (HM.out _).mono ?_; rintro _ w' ⟨rfl, hb⟩; replace hY := hY.later (by first | exact hb | exact bt (Below.refl _ _).drew hb | exact bt (Below.refl _ _).drew.drew hb | exact bt (Below.refl _ _).drew.drew.drew hb); clear hb; obtain ⟨q0, q1, q2, q3, q4, qB⟩ := id hY)
      | (go_at_call 91; with_reducible refine (HG.out _).mono ?_; rintro _ w' ⟨rfl, rfl⟩))
     go_ret2
     exact ⟨_, _, fun y h => by have := HI.out y h; simp at this; omega, by omega, by omega, rfl, below_drewN hY.below _⟩
 . obtain ⟨h4, hx, hex⟩ := JK hk hm
   rw [hm] at hM
   have HM := Lib.hid hM
   have HMG : Hid (∀ L : ByteArray, L.size = 4 -> allB dG L = true -> ∀ w, Calls Tryz.prog 91 #[.string L, .int .i64 d.ex] w fun r w' => r = .returned (.tuple #[.int .i64 (dD (aZ L)), .int .i64 1]) /\ w = w') := Lib.hid (fun L hl hd w => by
    have := lS L 0 w (by omega) (by omega) hd
    rw [hex]
    have e : fO L ((0 : Nat) : Int) = dD (aZ L) := aSn hl hd
    have hb : dD (aZ L) <= 9999 := by
     rw [<- aMM hl hd]; have := pF hd hl; omega
    have e2 : oP (fO L ((0 : Nat) : Int)) = (dD (aZ L), 1) := by rw [e]; unfold oP; rw [if_pos (by omega)]
    rw [e2] at this
    exact this)
   have hI : ∀ y, d.In y -> oC (aZ d.dg) (if d.neg = true then -y else y) /\ (d.neg = true -> y ≠ 0) := fun y h => by
    unfold Dt.In at h; rw [hm, if_pos rfl] at h
    cases hn : d.neg
    . rw [hn] at h; simp at h ⊢; exact h
    . rw [hn] at h; simp at h ⊢; exact h
   have hmk := yA h4 hx
   have hLO : (L6 d.dg 48 4).size = 4 /\ allB dG (L6 d.dg 48 4) = true /\ ∀ f, oC (aZ d.dg) f -> dD (aZ (L6 d.dg 48 4)) <= f :=
    ⟨zM _ _ _ (by omega), aBG h4 hx (by decide) (by decide), (OD hmk (fun i hi => FH d.dg 48 4 (by omega) i hi)).2⟩
   have hHI : (L6 d.dg 57 4).size = 4 /\ allB dG (L6 d.dg 57 4) = true /\ ∀ f, oC (aZ d.dg) f -> f <= dD (aZ (L6 d.dg 57 4)) :=
    ⟨zM _ _ _ (by omega), aBG h4 hx (by decide) (by decide), (zQ hmk (fun i hi => FH d.dg 57 4 (by omega) i hi)).2⟩
   have hZ : L6 d.dg 48 4 = z4 -> ∀ i, i < 4 -> aZ d.dg i = 88 \/ aZ d.dg i = 48 := fun e i hi => by
    have h1 := FH d.dg 48 4 (by omega) i hi
    rw [e] at h1
    have hz : ∀ i : Nat, i < 4 -> aZ z4 i = 48 := by decide
    rw [hz i hi] at h1
    split at h1
    . rename_i c; exact .inl c
    . exact .inr h1.symm
   have hv9 : ∀ L : ByteArray, L.size = 4 -> allB dG L = true -> 0 <= dD (aZ L) /\ dD (aZ L) <= 9999 := fun L hl hd => by
    rw [<- aMM hl hd]; have := pF hd hl; have := AL L; omega
   have HV9 := Lib.hid hv9
   unfold TK
   generalize d.In = I at *
   clear hM hm hk hex hmk hv9 hx
   generalize d.neg = neg at *
   generalize d.long = long at *
   generalize d.dg = s at *
   generalize d.ex = ex at *
   generalize d.sig = sig at *
   have HI := Lib.hid hI
   have PD := Lib.hid hLO
   have HHI := Lib.hid hHI
   have HZ := Lib.hid hZ
   clear hI hLO hHI hZ
   have HSZ : Hid (∀ x k, k <= 4 -> (L6 s x k).size = k) := Lib.hid (fun x k hk => zM s x k (by omega))
   have HBX : Hid (∀ k, k < 4 -> ((s.extract k (k + 1)).toList == [(88 : UInt8)]) = decide (aZ s k = 88)) := Lib.hid (fun k hk => by
    rw [show [(88 : UInt8)] = ByteArray.toList ⟨#[88]⟩ by rw [ByteArray.toList_mk], xO, decide_eq_decide]
    constructor
    . intro e
      have h1 := SQ s k (by omega)
      rw [e] at h1
      have h2 : [(88 : UInt8)] = [s[k]'(by omega)] := h1
      rw [bY s k (by omega), <- (List.cons.inj h2).1]; rfl
    . intro e
      apply aA9
      rw [SQ s k (by omega)]
      rw [bY s k (by omega)] at e
      have : s[k]'(by omega) = (88 : UInt8) := by apply UInt8.toNat.inj; show _ = 88; omega
      rw [this])
   unfold yv
   go_enter Tryz.func97, Tryz.ntmps97
   go_upto_region 1 with (fail)
   generalize World.alloc _ _ = W0 at hY ⊢
   obtain ⟨q0, q1, q2, q3, q4, qB⟩ := id hY
   go_wp2_with (go_at_call 122; with_reducible refine (HM.out _).mono ?_; rintro _ w' ⟨rfl, hb⟩; replace hY := hY.later (by first | exact hb | exact bt (Below.refl _ _).drew hb | exact bt (Below.refl _ _).drew.drew hb | exact bt (Below.refl _ _).drew.drew.drew hb); clear hb; obtain ⟨q0, q1, q2, q3, q4, qB⟩ := id hY)
   go_loopw [4, 5, 6] (fun lo hi i wr => ∃ k : Nat, k <= 4 /\ i = .int .i64 k /\ lo = .string (L6 s 48 k) /\ hi = .string (L6 s 57 k) /\ Ym w.heap.size neg long s ex sig w wr) (fun _ _ i _ => 4 - (intOf i).toNat)
   case atStart => exact ⟨0, by omega, rfl, rfl, rfl, hY⟩
   case round =>
    obtain ⟨k, hk, rfl, rfl, rfl, hY⟩ := hrel
    clear q0 q1 q2 q3 q4 qB
    obtain ⟨q0, q1, q2, q3, q4, qB⟩ := id hY
    by_cases hlt : k < 4
    . have a0 := HSZ.out 48 k (by omega)
      have a1 := HSZ.out 57 k (by omega)
      have HL0 := Lib.hid (JR s 48 k)
      have HL1 := Lib.hid (JR s 57 k)
      have hbx := HBX.out k hlt
      generalize L6 s 48 k = A at *
      generalize L6 s 57 k = B at *
      have k4 : k < s.size := by omega
      have es : (s.extract k (k + 1)).size = 1 := by rw [ByteArray.size_extract]; omega
      by_cases c : aZ s k = 88
      . rw [if_pos c] at HL0 HL1
        rw [decide_eq_true c] at hbx
        have HC := Lib.hid c
        clear c
        go_wp2
        go_quiet (fail)
        go_wp2
        go_roundw
        case rel => exact ⟨k + 1, by omega, by go_num, by rw [HL0.out], by rw [HL1.out], hY.later (below_drewN (Below.refl _ _) _)⟩
        case measure => simp [intOf]; omega
      . rw [if_neg c] at HL0 HL1
        rw [decide_eq_false c] at hbx
        have HC := Lib.hid c
        clear c
        go_wp2
        go_quiet (fail)
        go_wp2
        go_roundw
        case rel => exact ⟨k + 1, by omega, by go_num, by rw [HL0.out], by rw [HL1.out], hY.later (below_drewN (Below.refl _ _) _)⟩
        case measure => simp [intOf]; omega
    . obtain rfl : k = 4 := by omega
      clear HSZ HBX
      obtain ⟨A, hA⟩ : ∃ A, A = L6 s 48 4 := ⟨_, rfl⟩
      obtain ⟨B, hB⟩ : ∃ B, B = L6 s 57 4 := ⟨_, rfl⟩
      rw [<- hA] at PD HZ ⊢
      rw [<- hB] at HHI ⊢
      clear hA hB
      have hZ4 : (A.toList == [(48 : UInt8), 48, 48, 48]) = decide (A = z4) := by
       rw [show [(48 : UInt8), 48, 48, 48] = ByteArray.toList z4 by unfold z4; rw [ByteArray.toList_mk], xO]
      have GB := Lib.hid (HMG.out B HHI.out.1 HHI.out.2.1)
      have vb := HV9.out B HHI.out.1 HHI.out.2.1
      have HVB := Lib.hid HHI.out.2.2
      by_cases hne : neg = true /\ A = z4
      case neg =>
       have GA := Lib.hid (HMG.out A PD.out.1 PD.out.2.1)
       have va := HV9.out A PD.out.1 PD.out.2.1
       have HVA := Lib.hid PD.out.2.2
       clear HMG HV9 PD HHI HZ HM
       generalize dD (aZ A) = a at *
       generalize dD (aZ B) = b at *
       cases neg
       . clear hZ4
         all_goals
          as_aux_lemma =>
           go_wp2_with (go_at_call 91; first | (with_reducible refine (GA.out _).mono ?_; rintro _ w' ⟨rfl, rfl⟩) | (with_reducible refine (GB.out _).mono ?_; rintro _ w' ⟨rfl, rfl⟩))
           go_ret2
           exact ⟨_, _, fun y h => by have h1 := HI.out y h; simp at h1; have h2 := HVA.out _ h1; have h3 := HVB.out _ h1; omega, by omega, by omega, rfl, hY.below⟩
       . have hA4 : ¬ A = z4 := fun h => hne ⟨rfl, h⟩
         rw [decide_eq_false hA4] at hZ4
         clear hne hA4
         . as_aux_lemma =>
            go_wp2_with (go_at_call 91; first | (with_reducible refine (GA.out _).mono ?_; rintro _ w' ⟨rfl, rfl⟩) | (with_reducible refine (GB.out _).mono ?_; rintro _ w' ⟨rfl, rfl⟩))
            go_ret2
            exact ⟨_, _, fun y h => by have h1 := HI.out y h; simp at h1; have h2 := HVA.out _ h1.1; have h3 := HVB.out _ h1.1; omega, by omega, by omega, rfl, hY.below⟩
      case pos =>
       obtain ⟨rfl, rfl⟩ := hne
       have HZ2 := Lib.hid (HZ.out rfl)
       clear HZ PD hZ4 HM
       unfold z4
       generalize dD (aZ B) = b at *
       go_wp2
       go_loopw [4, 9] (fun lo i wr => ∃ (k : Nat) (L : ByteArray), k <= 4 /\ i = .int .i64 k /\ lo = .string L /\ ((L = z4 /\ ∀ j, j < k -> aZ s j ≠ 88) \/ (∃ j, j < k /\ aZ s j = 88 /\ (∀ l, j < l -> l < k -> aZ s l ≠ 88) /\ L = aIM j)) /\ Ym w.heap.size true long s ex sig w wr) (fun _ i _ => 4 - (intOf i).toNat)
       case atStart => exact ⟨0, _, by omega, rfl, rfl, .inl ⟨rfl, fun j h => by omega⟩, hY⟩
       case round =>
        obtain ⟨k, L, hk, rfl, rfl, hL, hY⟩ := hrel
        clear q0 q1 q2 q3 q4 qB
        obtain ⟨q0, q1, q2, q3, q4, qB⟩ := id hY
        have HL := Lib.hid hL
        clear hL
        by_cases hlt : k < 4
        . have k4 : k < s.size := by omega
          have HB2 := Lib.hid (bY s k k4)
          by_cases c : ((s[k]'k4).toNat : Int) = 88
          . go_wp2
            go_quiet (fail)
            go_wp2
            go_roundw
            case rel => exact ⟨k + 1, _, by omega, by go_num, rfl, .inr ⟨k, by omega, by rw [HB2.out]; exact c, fun l h1 h2 => by omega, rfl⟩, hY.later (below_drewN (Below.refl _ _) _)⟩
            case measure => simp [intOf]; omega
          . go_wp2
            go_roundw
            case rel => exact ⟨k + 1, _, by omega, by go_num, rfl, by
             have hb : aZ s k ≠ 88 := by rw [HB2.out]; exact c
             rcases HL.out with ⟨e1, e2⟩ | ⟨j, e1, e2, e3, e4⟩
             . refine .inl ⟨e1, fun j hj => ?_⟩
               by_cases e : j = k
               . subst e; exact hb
               . exact e2 j (by omega)
             . refine .inr ⟨j, by omega, e2, fun l h1 h2 => ?_, e4⟩
               by_cases e : l = k
               . subst e; exact hb
               . exact e3 l h1 (by omega), hY⟩
            case measure => simp [intOf]; omega
        . obtain rfl : k = 4 := by omega
          have hL2 : L.size = 4 /\ allB dG L = true /\ ∀ f, oC (aZ s) f -> f ≠ 0 -> dD (aZ L) <= f := by
           rcases HL.out with ⟨rfl, e2⟩ | ⟨j, e1, e2, e3, rfl⟩
           . refine ⟨rfl, by decide, fun f hf hn => ?_⟩
             have : dD (aZ z4) = 0 := by decide
             have := hf.1
             omega
           . obtain ⟨g1, g2, g3⟩ := aAj j e1
             exact ⟨g1, g2, fun f hf hn => aDO e1 hf hn HZ2.out e3 g3⟩
          have GA := Lib.hid (HMG.out L hL2.1 hL2.2.1)
          have va := HV9.out L hL2.1 hL2.2.1
          have HVA := Lib.hid hL2.2.2
          clear hL2 HL HMG HV9 HHI HZ2
          generalize dD (aZ L) = a at *
          go_wp2_with (go_at_call 91; first | (with_reducible refine (GA.out _).mono ?_; rintro _ w' ⟨rfl, rfl⟩) | (with_reducible refine (GB.out _).mono ?_; rintro _ w' ⟨rfl, rfl⟩))
          go_ret2
          exact ⟨_, _, fun y h => by have h1 := HI.out y h; simp at h1; have h2 := HVA.out _ h1.1 (by omega); have h3 := HVB.out _ h1.1; omega, by omega, by omega, rfl, hY.below⟩
end Bk
end
section
open Go.RowKit Go.Lib
namespace Bk
open Un (ba bt ri rb aX bP)
theorem rs {a b : ByteArray} (h : a = b) : Ending.returned (.string a) = .returned (.string b) := by rw [h]
theorem VO (n : Nat) (w : World) (h : n <= 99) :
 Calls Tryz.prog 61 #[.int .i64 n] w fun r w' => r = .returned (.string (twoS n)) /\ Below w.heap.size w w' := by
 have HT := Lib.hid (aIs n (by omega))
 unfold XZ at HT
 go_enter Tryz.func61, Tryz.ntmps61
 go_wp2
 go_quiet (fail)
 go_wp2
 all_goals go_ret
 all_goals exact ⟨rs HT.out, below_drewN (Below.refl _ _) _⟩
theorem uQ (s : ByteArray) (n : Nat) (w : World) (h : n <= 99) :
 Calls Tryz.prog 123 #[.string s, .int .i64 n] w fun r w' => r = .returned (.int .i64 (if jJ s n then 1 else 0)) /\ Below w.heap.size w w' := by
 have HT := Lib.hid (fun w => VO n w h)
 obtain ⟨R, hR⟩ : ∃ R : Int, R = if jJ s n then 1 else 0 := ⟨_, rfl⟩
 rw [<- hR]
 have hRF : (s.size ≠ 2 -> R = 0) /\ (s.size = 2 -> (aZ s 0 = 88 \/ aZ s 0 = 48 + (n : Int) / 10) -> (aZ s 1 = 88 \/ aZ s 1 = 48 + (n : Int) % 10) -> R = 1) /\ (s.size = 2 -> ¬ (aZ s 0 = 88 \/ aZ s 0 = 48 + (n : Int) / 10) -> R = 0) /\ (s.size = 2 -> ¬ (aZ s 1 = 88 \/ aZ s 1 = 48 + (n : Int) % 10) -> R = 0) := by
  rw [hR]
  refine ⟨fun h => by rw [O7 h]; rfl, fun h1 h2 h3 => ?_, fun h1 h2 => ?_, fun h1 h2 => ?_⟩
  . rw [if_pos]; unfold jJ; simp [h1, h2, h3]
  . rw [show jJ s n = false by unfold jJ; rw [Bool.eq_false_iff]; intro c; simp at c; omega]; rfl
  . rw [show jJ s n = false by unfold jJ; rw [Bool.eq_false_iff]; intro c; simp at c; omega]; rfl
 obtain ⟨t, ht⟩ : ∃ t, t = twoS n := ⟨_, rfl⟩
 rw [<- ht] at HT
 have t2 : t.size = 2 := by rw [ht]; rfl
 have t20 : 0 < t.size := by omega
 have t21 : 1 < t.size := by omega
 have b0 : ((t[0]'t20).toNat : Int) = 48 + (n : Int) / 10 := by rw [<- bY t 0 t20, ht]; exact aEN h
 have b1 : ((t[1]'t21).toNat : Int) = 48 + (n : Int) % 10 := by rw [<- bY t 1 t21, ht]; exact aEM h
 by_cases c : s.size = 2
 . have s0 : 0 < s.size := by omega
   have s1 : 1 < s.size := by omega
   rw [bY s 0 s0, bY s 1 s1, <- b0, <- b1] at hRF
   obtain ⟨a0, g0⟩ : ∃ b, (((s[0]'s0).toNat : Int) == 88) = b := ⟨_, rfl⟩
   obtain ⟨a1, g1⟩ : ∃ b, (((s[0]'s0).toNat : Int) == ((t[0]'t20).toNat : Int)) = b := ⟨_, rfl⟩
   obtain ⟨c0, g2⟩ : ∃ b, (((s[1]'s1).toNat : Int) == 88) = b := ⟨_, rfl⟩
   obtain ⟨c1, g3⟩ : ∃ b, (((s[1]'s1).toNat : Int) == ((t[1]'t21).toNat : Int)) = b := ⟨_, rfl⟩
   have hR2 : R = if (a0 || a1) && (c0 || c1) then 1 else 0 := by
    subst g0 g1 g2 g3
    simp only [Bool.and_eq_true, Bool.or_eq_true, beq_iff_eq]
    split
    . rename_i h; exact hRF.2.1 c h.1 h.2
    . rename_i h
      by_cases q : (((s[0]'s0).toNat : Int) = 88 \/ ((s[0]'s0).toNat : Int) = ((t[0]'t20).toNat : Int))
      . exact hRF.2.2.2 c (fun e => h ⟨q, e⟩)
      . exact hRF.2.2.1 c q
   replace hR2 := Lib.hid hR2
   clear hRF hR b0 b1 ht
   cases a0 <;> cases a1 <;> cases c0 <;> cases c1
   all_goals
    as_aux_lemma =>
     go_enter Tryz.func123, Tryz.ntmps123
     go_wp2_with (go_at_call 61; with_reducible refine (HT.out _).mono ?_; rintro _ w' ⟨rfl, hb⟩)
     go_quiet (fail)
     go_wp2
     go_ret
     exact ⟨ri hR2.out.symm, below_drewN hb _⟩
 . have hR0 := hRF.1 c
   clear hR hRF ht b0 b1
   subst hR0
   have c2 : ((s.size : Int) == 2) = false := by rw [beq_eq_false_iff_ne]; omega
   clear c t20 t21 t2
   go_enter Tryz.func123, Tryz.ntmps123
   go_wp2_with (go_at_call 61; with_reducible refine (HT.out _).mono ?_; rintro _ w' ⟨rfl, hb⟩)
   clear HT
   go_quiet (fail)
   go_wp2
   go_ret
   exact ⟨rfl, below_drewN hb _⟩
theorem NR (s : ByteArray) (g : Nat) (w : World) (hg : g <= 99) :
 Calls Tryz.prog 95 #[.string s, .int .i64 g] w fun r w' => r = .returned (.int .i64 (if eG s g then 1 else 0)) /\ Below w.heap.size w w' := by
 have HT := Lib.hid (fun (k : Nat) (hk : k < g) (x : Int) (hx : x = if jJ s ((k : Int) + 1) then 1 else 0) w => (by rw [hx]; exact uQ s (k + 1) w (by omega) : Calls Tryz.prog 123 #[.string s, .int .i64 ((k : Int) + 1)] w fun r w' => r = .returned (.int .i64 x) /\ Below w.heap.size w w'))
 have HM := Lib.hid (fun (k : Nat) (h : k < g) (ht : jJ s ((k : Int) + 1) = true) => (GZ (s := s) (g := k + 1) (h := g) (by omega) (by rw [rO, ht, Bool.or_true]) : eG s g = true))
 have HN := Lib.hid (fun (k : Nat) (h : eG s k = false) (ht : jJ s ((k : Int) + 1) = false) => (by rw [rO, h, ht]; rfl : eG s (k + 1) = false))
 obtain ⟨R, hR⟩ : ∃ R : Int, R = if eG s g then 1 else 0 := ⟨_, rfl⟩
 rw [<- hR]
 replace hR := Lib.hid hR
 go_enter Tryz.func95, Tryz.ntmps95
 go_wp2
 go_loopw [5] (fun i wr => ∃ k : Nat, k <= g /\ i = .int .i64 ((k : Int) + 1) /\ eG s k = false /\ Below w.heap.size w wr) (fun i _ => g + 1 - (intOf i).toNat)
 case atStart => exact ⟨0, Nat.zero_le _, rfl, rfl, Below.refl _ _⟩
 case round =>
  obtain ⟨k, hk, rfl, hz, hb⟩ := hrel
  by_cases hlt : k < g
  . have hT := fun x hx w => HT.out k hlt x hx w
    have HB := Lib.hid hb
    have HZ := Lib.hid hz
    clear hb hz
    cases ha : jJ s ((k : Int) + 1)
    . have HT2 := Lib.hid (hT 0 (by rw [ha]; rfl))
      have HA := Lib.hid ha
      clear hT ha
      go_wp2_with (go_at_call 123; with_reducible refine (HT2.out _).mono ?_; rintro _ w' ⟨rfl, hb⟩)
      go_roundw
      case rel => exact ⟨k + 1, by omega, by go_num, HN.out k HZ.out HA.out, bt HB.out hb⟩
      case measure => simp [intOf]; omega
    . have HT2 := Lib.hid (hT 1 (by rw [ha]; rfl))
      have HA := Lib.hid ha
      clear hT ha
      go_wp2_with (go_at_call 123; with_reducible refine (HT2.out _).mono ?_; rintro _ w' ⟨rfl, hb⟩)
      go_ret
      exact ⟨ri (by rw [hR.out, HM.out k hlt HA.out]; rfl), bt HB.out hb⟩
  . obtain rfl : k = g := by omega
    have HB := Lib.hid hb
    have HZ := Lib.hid hz
    clear hb hz
    go_wp2
    go_ret
    exact ⟨ri (by rw [hR.out, HZ.out]; rfl), HB.out⟩
theorem aAb (d : Dt) (w : World) :
 Calls Tryz.prog 37 #[bZ d] w fun r w' => r = .returned (.int .i64 (comps d.mo d.da)) /\ Below w.heap.size w w' := by
 have hD := Dm.new d w 37
 obtain ⟨R, hR⟩ : ∃ R, R = comps d.mo d.da := ⟨_, rfl⟩
 rw [<- hR]
 unfold comps at hR
 unfold bZ
 rcases bQ d.mo with ⟨e0, m0⟩ | ⟨e0, m0⟩ <;> rcases bQ d.da with ⟨e1, m1⟩ | ⟨e1, m1⟩
 all_goals
  first | rw [if_pos e0] at hR | rw [if_neg e0] at hR
  first | rw [if_pos e1] at hR | rw [if_neg e1] at hR
  replace hR := Lib.hid hR
  clear e0 e1
  go_enter Tryz.func37, Tryz.ntmps37
  go_upto_region 1 with (fail)
  generalize w.alloc (.cells #[.bool d.neg, .bool d.long, .string d.dg, .int .i64 d.ex, .int .i64 d.sig, .string d.mo, .string d.da, .int .u8 d.m0, .int .u8 d.m1, .int .u8 d.m2] 37) = W0 at hD ⊢
  obtain ⟨q0, q1, q2, q3, q4, q5, q6, q7, q8, q9, qB⟩ := id hD
  go_wp2
  go_ret
  exact ⟨ri (by rw [hR.out]; rfl), hD.below⟩
theorem uO (d : Dt) (w : World) :
 Calls Tryz.prog 35 #[bZ d] w fun r w' => r = .returned (.int .i64 d.aH) /\ Below w.heap.size w w' := by
 have hD := Dm.new d w 37
 have HT := Lib.hid (fun (c : Nat) w (h : c <= 41) => VO c w (by omega))
 have HS := Lib.hid (fun (c : Nat) (h0 : 21 <= c) (h1 : c <= 41) => (UN (s := d.mo) h0 h1))
 have HBD := Lib.hid (jZ d.mo)
 unfold Dt.aH
 generalize fZ d.mo = z at *
 unfold bZ
 go_enter Tryz.func35, Tryz.ntmps35
 go_upto_region 1 with (fail)
 generalize w.alloc (.cells #[.bool d.neg, .bool d.long, .string d.dg, .int .i64 d.ex, .int .i64 d.sig, .string d.mo, .string d.da, .int .u8 d.m0, .int .u8 d.m1, .int .u8 d.m2] 37) = W0 at hD ⊢
 go_wp2
 go_loopw [3] (fun i wr => ∃ c : Nat, 21 <= c /\ c <= 42 /\ i = .int .i64 c /\ (z = 0 \/ (c : Int) <= z) /\ Dm w.heap.size d w wr) (fun i _ => 42 - (intOf i).toNat)
 case atStart => exact ⟨21, by omega, by omega, rfl, by have := HBD.out; omega, hD⟩
 case round =>
  obtain ⟨c, h0, h1, rfl, hz, hD⟩ := hrel
  obtain ⟨q0, q1, q2, q3, q4, q5, q6, q7, q8, q9, qB⟩ := id hD
  by_cases hlt : c <= 41
  . have hT := fun w => HT.out c w hlt
    have hS := HS.out c h0 hlt
    generalize twoS c = t at *
    have hb : (d.mo.toList == t.toList) = decide (d.mo = t) := xO _ _
    have HT2 := Lib.hid hT
    have HZ := Lib.hid hz
    clear hT hz HT HS
    by_cases e : d.mo = t
    . have hv := hS.1 e
      rw [decide_eq_true e] at hb
      have HV := Lib.hid hv
      clear e hS hv
      go_wp2
      go_region_with (go_at_call 61; with_reducible refine (HT2.out _).mono ?_; rintro _ w' ⟨rfl, hb⟩; have hD := hD.later (by first | exact hb | exact bt (Below.refl _ _).drew hb | exact bt (Below.refl _ _).drew.drew hb); obtain ⟨q0, q1, q2, q3, q4, q5, q6, q7, q8, q9, qB⟩ := id hD)
      all_goals (go_wp2_with fail)
      all_goals go_ret
      all_goals exact ⟨ri HV.out.symm, hD.below⟩
    . have hv : ¬ z = c := fun h => e (hS.2 h)
      rw [decide_eq_false e] at hb
      have HV := Lib.hid hv
      clear e hS hv
      go_wp2
      go_region_with (go_at_call 61; with_reducible refine (HT2.out _).mono ?_; rintro _ w' ⟨rfl, hb⟩; have hD := hD.later (by first | exact hb | exact bt (Below.refl _ _).drew hb | exact bt (Below.refl _ _).drew.drew hb); obtain ⟨q0, q1, q2, q3, q4, q5, q6, q7, q8, q9, qB⟩ := id hD)
      all_goals (go_wp2_with fail)
      all_goals go_roundw
      all_goals first
       | exact ⟨c + 1, by omega, by omega, by go_num, by have := HV.out; have := HZ.out; omega, hD⟩
       | (simp [intOf]; omega)
  . obtain rfl : c = 42 := by omega
    have HV : Hid (z = 0) := Lib.hid (by have := HBD.out; omega)
    clear hz
    go_wp2
    go_ret
    exact ⟨ri HV.out.symm, hD.below⟩
end Bk
end
section
open Go.RowKit Go.Lib
namespace Bk
open Un (ba bt ri rb aX bP)
theorem aFa (a b c n : Int) (w : World) (a0 : 0 <= a) (b0 : 0 <= b) (c0 : 0 <= c) (n0 : 1 <= n) (n1 : n <= 3) :
 Calls Tryz.prog 96 #[.agg #[.int .u8 a, .int .u8 b, .int .u8 c], .int .i64 n] w fun r w' => r = .returned (.int .i64 (eY a b c n)) /\ Below w.heap.size w w' := by
 obtain ⟨R, hR⟩ : ∃ R, R = eY a b c n := ⟨_, rfl⟩
 rw [<- hR]
 have HR : Hid ((a <= 3 /\ b <= 3 /\ c <= 3 /\ (n < 3 -> c = 0) /\ (n < 2 -> b = 0) -> R = 0) /\ (¬ (a <= 3 /\ b <= 3 /\ c <= 3 /\ (n < 3 -> c = 0) /\ (n < 2 -> b = 0)) -> R = 9)) := Lib.hid (by
  rw [hR]; unfold eY; exact ⟨fun h => if_pos h, fun h => if_neg h⟩)
 clear hR
 rcases (show n = 1 \/ n = 2 \/ n = 3 by omega) with rfl | rfl | rfl
 all_goals
  clear n0 n1
  go_enter Tryz.func96, Tryz.ntmps96
  go_wp2
  refine wp_loop_rounds 4 ?_
  rw [rounds_succ]
  go_wp2
  all_goals try rw [rounds_succ]
  all_goals try go_wp2
  all_goals try rw [rounds_succ]
  all_goals try go_wp2
  all_goals try rw [rounds_succ]
  all_goals try go_wp2
  all_goals go_ret
  all_goals refine ⟨ri ?_, ba (Below.refl _ _) _⟩
  all_goals have hR := HR.out
  all_goals omega
theorem aDb (d : Dt) (w : World) (hy : d.dg.size <= 1000) (s0 : -9223372036854775808 <= d.sig) (s1 : d.sig < 9223372036854775808) :
 Calls Tryz.prog 94 #[bZ d] w fun r w' => r = .returned (.int .i64 (if d.mO then 1 else 0)) /\ Below w.heap.size w w' := by
 have hD := Dm.new d w 37
 have hC := fun w => VN d.neg d.long d.dg d.ex d.sig w hy s0 s1
 have HS := Lib.hid (fun w => uO d w)
 have hM := fun w => uP d.neg d.long d.dg d.ex d.sig w (by unfold maxLen; omega)
 obtain ⟨R, hR⟩ : ∃ R : Int, R = if d.mO then 1 else 0 := ⟨_, rfl⟩
 rw [<- hR]
 unfold Dt.mO Dt.far at hR
 unfold yv at hC
 change ∀ w, Calls _ _ _ w fun r w' => r = .returned (.int .i64 (if d.PK then 1 else 0)) /\ _ at hC
 change ∀ w, Calls _ _ _ w fun r w' => r = .returned (.int .i64 (if d.mask then 1 else 0)) /\ _ at hM
 unfold bZ at HS
 unfold bZ
 cases hk : d.PK
 . rw [hk] at hC hR
   have hR0 : R = 0 := by rw [hR]; simp
   subst hR0
   have HC := Lib.hid hC
   clear hC hR HS hM
   go_enter Tryz.func94, Tryz.ntmps94
   go_upto_region 1 with (fail)
   generalize w.alloc (.cells #[.bool d.neg, .bool d.long, .string d.dg, .int .i64 d.ex, .int .i64 d.sig, .string d.mo, .string d.da, .int .u8 d.m0, .int .u8 d.m1, .int .u8 d.m2] 37) = W0 at hD ⊢
   obtain ⟨q0, q1, q2, q3, q4, q5, q6, q7, q8, q9, qB⟩ := id hD
   go_wp2_with (go_at_call 60; with_reducible refine (HC.out _).mono ?_; rintro _ w' ⟨rfl, hb⟩; replace hD := hD.later hb; clear hb; obtain ⟨q0, q1, q2, q3, q4, q5, q6, q7, q8, q9, qB⟩ := id hD)
   go_ret
   exact ⟨rfl, hD.below⟩
 . rw [hk] at hC hR
   have HC := Lib.hid hC
   have hmg : d.mask = false -> ∀ w, Calls Tryz.prog 91 #[.string d.dg, .int .i64 d.ex] w fun r w' => r = .returned (.tuple #[.int .i64 d.mag, .int .i64 1]) /\ w = w' := by
    intro hm w
    obtain ⟨e, he, hle, hd, hl⟩ : ∃ e : Nat, d.ex = e /\ e <= 16 /\ allB dG d.dg = true /\ d.mag <= 10000000000000000 := by
     have hk' : KZ d.neg d.long d.dg d.ex d.sig = true := hk
     cases hl : d.long
     . rw [hl] at hk'
       obtain ⟨a1, a2, a3, a4, a5, a6, a7⟩ := iF hk'
       have hd := (kT a2).1 hm
       refine ⟨0, a3, by omega, hd, ?_⟩
       unfold Dt.mag fO; rw [a3]
       have := pF hd a1
       have e : p10 (Int.toNat 0) = 1 := rfl
       rw [e]; omega
     . rw [hl] at hk'
       obtain ⟨a1, a2, a3, a4, a5, a6, a7, a8, a9⟩ := jD hk'
       exact ⟨d.ex.toNat, by omega, by omega, a3, a7⟩
    have := lS d.dg e w hy (by omega) hd
    rw [he]
    have e2 : oP (fO d.dg e) = (d.mag, 1) := by
     unfold oP; rw [show fO d.dg e = d.mag by unfold Dt.mag; rw [he], if_pos hl]
    rw [e2] at this
    exact this
   clear hC hk
   have hf : (0 < d.sig -> d.mo.size ≠ 0 -> R = 0) /\ ((d.sig <= 0 \/ d.mo.size = 0) -> (d.aH ≠ 24 /\ d.aH ≠ 28 /\ d.aH ≠ 30 -> R = 1) /\ (d.mask = true -> R = 1) /\ (d.neg = true -> R = 1) /\ (d.mag ≠ 10000000000000000 -> R = 1) /\ (d.aH = 24 \/ d.aH = 28 \/ d.aH = 30 -> d.mask = false -> d.mag = 10000000000000000 -> d.neg = false -> R = 0)) := by
    refine ⟨fun h1 h2 => by rw [hR, decide_eq_true h1, decide_eq_false h2]; rfl, fun h => ?_⟩
    have e1 : (decide (0 < d.sig) && !decide (d.mo.size = 0)) = false := by
     rcases h with h | h
     . rw [decide_eq_false (by omega)]; rfl
     . rw [decide_eq_true h]; simp
    rw [e1] at hR
    refine ⟨fun h => ?_, fun h => ?_, fun h => ?_, fun h => ?_, fun h h2 h3 h4 => ?_⟩
    . rw [hR, decide_eq_false h.1, decide_eq_false h.2.1, decide_eq_false h.2.2]; rfl
    . rw [hR, h]; simp
    . rw [hR, h]; simp
    . rw [hR, decide_eq_false h]; simp
    . have : (decide (d.aH = 24) || (decide (d.aH = 28) || decide (d.aH = 30))) = true := by
       rcases h with h | h | h <;> simp [h]
      rw [hR, this, h2, decide_eq_true h3, h4]; rfl
   clear hR
   have HR := Lib.hid hf
   clear hf
   generalize d.aH = z at *
   generalize hmk : d.mask = mk at *
   generalize d.mag = mg at *
   clear hmk
   cases mk
   . have HM := Lib.hid hM
     have HG := Lib.hid (hmg rfl)
     clear hM hmg
     rcases bQ d.mo with ⟨e0, m0⟩ | ⟨e0, m0⟩
     all_goals
      as_aux_lemma =>
       go_enter Tryz.func94, Tryz.ntmps94
       go_upto_region 1 with (fail)
       generalize World.alloc _ _ = W0 at hD ⊢
       obtain ⟨q0, q1, q2, q3, q4, q5, q6, q7, q8, q9, qB⟩ := id hD
       go_wp2_with (first
        | (go_at_call 60; with_reducible refine (HC.out _).mono ?_; rintro _ w' ⟨rfl, hb⟩; replace hD := hD.later hb; clear hb; obtain ⟨q0, q1, q2, q3, q4, q5, q6, q7, q8, q9, qB⟩ := id hD)
        | (go_at_call 35; with_reducible refine (HS.out _).mono ?_; rintro _ w' ⟨rfl, hb⟩; replace hD := hD.later hb; clear hb; obtain ⟨q0, q1, q2, q3, q4, q5, q6, q7, q8, q9, qB⟩ := id hD)
        | (go_at_call 122; with_reducible refine (HM.out _).mono ?_; rintro _ w' ⟨rfl, hb⟩; replace hD := hD.later hb; clear hb; obtain ⟨q0, q1, q2, q3, q4, q5, q6, q7, q8, q9, qB⟩ := id hD)
        | (go_at_call 91; with_reducible refine (HG.out _).mono ?_; rintro _ w' ⟨rfl, rfl⟩))
       all_goals go_ret
       all_goals refine ⟨ri ?_, hD.below⟩
       all_goals have hR := HR.out
       all_goals simp only [forall_const, reduceCtorEq, false_implies, implies_true, true_implies, and_true, true_and, false_and, false_or, ne_eq] at hR
       all_goals try simp only [beq_iff_eq] at *
       all_goals first | omega | (rcases Bool.eq_false_or_eq_true d.neg with hn | hn <;> simp only [hn, forall_const, reduceCtorEq, false_implies, implies_true, true_implies, and_true, true_and, false_and, false_or, ne_eq, Bool.not_true, Bool.not_false] at * <;> omega)
   . have HM := Lib.hid hM
     clear hM hmg
     rcases bQ d.mo with ⟨e0, m0⟩ | ⟨e0, m0⟩
     all_goals
      as_aux_lemma =>
       go_enter Tryz.func94, Tryz.ntmps94
       go_upto_region 1 with (fail)
       generalize World.alloc _ _ = W0 at hD ⊢
       obtain ⟨q0, q1, q2, q3, q4, q5, q6, q7, q8, q9, qB⟩ := id hD
       go_wp2_with (first
        | (go_at_call 60; with_reducible refine (HC.out _).mono ?_; rintro _ w' ⟨rfl, hb⟩; replace hD := hD.later hb; clear hb; obtain ⟨q0, q1, q2, q3, q4, q5, q6, q7, q8, q9, qB⟩ := id hD)
        | (go_at_call 35; with_reducible refine (HS.out _).mono ?_; rintro _ w' ⟨rfl, hb⟩; replace hD := hD.later hb; clear hb; obtain ⟨q0, q1, q2, q3, q4, q5, q6, q7, q8, q9, qB⟩ := id hD)
        | (go_at_call 122; with_reducible refine (HM.out _).mono ?_; rintro _ w' ⟨rfl, hb⟩; replace hD := hD.later hb; clear hb; obtain ⟨q0, q1, q2, q3, q4, q5, q6, q7, q8, q9, qB⟩ := id hD))
       all_goals go_ret
       all_goals refine ⟨ri ?_, hD.below⟩
       all_goals have hR := HR.out
       all_goals simp only [forall_const, reduceCtorEq, false_implies, implies_true, true_implies, and_true, true_and, false_and, false_or, ne_eq] at hR
       all_goals try simp only [beq_iff_eq] at *
       all_goals omega
theorem VR (d : Dt) (w : World) (hy : d.dg.size <= 1000) (s0 : -9223372036854775808 <= d.sig) (s1 : d.sig < 9223372036854775808) (m0 : 0 <= d.m0) (m1 : 0 <= d.m1) (m2 : 0 <= d.m2) :
 Calls Tryz.prog 71 #[bZ d] w fun r w' => r = .returned (.int .i64 d.form) /\ Below w.heap.size w w' := by
 have hD := Dm.new d w 37
 have hY := fun w => aDb d w hy s0 s1
 have HS := Lib.hid (fun w => uO d w)
 have HC := Lib.hid (fun w => aAb d w)
 have hA := fun w => aFa d.m0 d.m1 d.m2 (comps d.mo d.da) w m0 m1 m2 (AO _ _).1 (AO _ _).2
 have h12 : ∀ w, Calls Tryz.prog 95 #[.string d.mo, .int .i64 12] w fun r w' => r = .returned (.int .i64 (if eG d.mo 12 then 1 else 0)) /\ Below w.heap.size w w' := fun w => NR d.mo 12 w (by omega)
 have h31 : ∀ w, Calls Tryz.prog 95 #[.string d.da, .int .i64 31] w fun r w' => r = .returned (.int .i64 (if eG d.da 31 then 1 else 0)) /\ Below w.heap.size w w' := fun w => NR d.da 31 w (by omega)
 obtain ⟨R, hR⟩ : ∃ R : Int, R = d.form := ⟨_, rfl⟩
 rw [<- hR]
 unfold Dt.form at hR
 have hz : d.aH = 0 \/ (21 <= d.aH /\ d.aH <= 41) := jZ d.mo
 unfold bZ at hY HS HC
 unfold bZ
 cases hk : d.mO
 . rw [hk] at hY hR
   have hR0 : R = 6 := by rw [hR]; rfl
   clear hR
   subst hR0
   have HY := Lib.hid hY
   clear hY HS HC hA h12 h31
   go_enter Tryz.func71, Tryz.ntmps71
   go_upto_region 1 with (fail)
   generalize World.alloc _ _ = W0 at hD ⊢
   obtain ⟨q0, q1, q2, q3, q4, q5, q6, q7, q8, q9, qB⟩ := id hD
   go_wp2_with (go_at_call 94; with_reducible refine (HY.out _).mono ?_; rintro _ w' ⟨rfl, hb⟩; replace hD := hD.later (by first | exact hb | exact bt (Below.refl _ _).drew hb | exact bt (Below.refl _ _).drew.drew hb); clear hb; obtain ⟨q0, q1, q2, q3, q4, q5, q6, q7, q8, q9, qB⟩ := id hD)
   go_ret
   exact ⟨rfl, hD.below⟩
 . rw [hk] at hY hR
   have HY := Lib.hid hY
   clear hY hk
   generalize comps d.mo d.da = cs at *
   generalize eY d.m0 d.m1 d.m2 cs = M at *
   obtain ⟨v12, aJk⟩ : ∃ v : Int, v = if eG d.mo 12 then 1 else 0 := ⟨_, rfl⟩
   obtain ⟨v31, hv31⟩ : ∃ v : Int, v = if eG d.da 31 then 1 else 0 := ⟨_, rfl⟩
   rw [<- aJk] at h12
   rw [<- hv31] at h31
   generalize d.aH = z at *
   have hf : (d.mo.size ≠ 0 -> z = 0 -> v12 = 0 -> R = 7) /\ ((d.mo.size = 0 \/ z ≠ 0 \/ v12 ≠ 0) -> (d.da.size ≠ 0 -> (d.mo.size = 0 \/ z ≠ 0 \/ v31 = 0) -> R = 8) /\ ((d.da.size = 0 \/ (d.mo.size ≠ 0 /\ z = 0 /\ v31 ≠ 0)) -> R = M)) := by
    rw [aJk, hv31, hR]
    clear hR aJk hv31 h12 h31
    generalize eG d.mo 12 = b12
    generalize eG d.da 31 = b31
    by_cases c0 : d.mo.size = 0 <;> by_cases c1 : d.da.size = 0 <;> by_cases c2 : z = 0 <;> cases b12 <;> cases b31 <;> simp [c0, c1, c2]
   clear hR aJk hv31
   have HR := Lib.hid hf
   have HA := Lib.hid hA
   have H12 := Lib.hid h12
   have H31 := Lib.hid h31
   clear hf hA h12 h31
   rcases bQ d.mo with ⟨e0, x0⟩ | ⟨e0, x0⟩ <;> rcases bQ d.da with ⟨e1, x1⟩ | ⟨e1, x1⟩
   all_goals
    as_aux_lemma =>
     go_enter Tryz.func71, Tryz.ntmps71
     go_upto_region 1 with (fail)
     generalize World.alloc _ _ = W0 at hD ⊢
     obtain ⟨q0, q1, q2, q3, q4, q5, q6, q7, q8, q9, qB⟩ := id hD
     go_wp2_with (first
      | (go_at_call 94; with_reducible refine (HY.out _).mono ?_; rintro _ w' ⟨rfl, hb⟩; replace hD := hD.later (by first | exact hb | exact bt (Below.refl _ _).drew hb | exact bt (Below.refl _ _).drew.drew hb); clear hb; obtain ⟨q0, q1, q2, q3, q4, q5, q6, q7, q8, q9, qB⟩ := id hD)
      | (go_at_call 35; with_reducible refine (HS.out _).mono ?_; rintro _ w' ⟨rfl, hb⟩; replace hD := hD.later (by first | exact hb | exact bt (Below.refl _ _).drew hb | exact bt (Below.refl _ _).drew.drew hb); clear hb; obtain ⟨q0, q1, q2, q3, q4, q5, q6, q7, q8, q9, qB⟩ := id hD)
      | (go_at_call 95; first
          | (with_reducible refine (H12.out _).mono ?_; rintro _ w' ⟨rfl, hb⟩; replace hD := hD.later hb; clear hb; obtain ⟨q0, q1, q2, q3, q4, q5, q6, q7, q8, q9, qB⟩ := id hD)
          | (with_reducible refine (H31.out _).mono ?_; rintro _ w' ⟨rfl, hb⟩; replace hD := hD.later hb; clear hb; obtain ⟨q0, q1, q2, q3, q4, q5, q6, q7, q8, q9, qB⟩ := id hD)))
     all_goals first
      | (go_ret; refine ⟨ri ?_, hD.below⟩; have hR := HR.out; (try simp only [beq_iff_eq, bne_iff_ne, beq_eq_false_iff_ne, decide_eq_true_eq, decide_eq_false_iff_not, Bool.not_eq_true, Bool.and_eq_true, Bool.or_eq_true, ne_eq] at *); omega)
      | (clear HY HS H12 H31
         go_region_with (first
          | (go_at_call 37; with_reducible refine (HC.out _).mono ?_; rintro _ w' ⟨rfl, hb⟩; replace hD := hD.later (by first | exact hb | exact bt (Below.refl _ _).drew hb | exact bt (Below.refl _ _).drew.drew hb); clear hb; obtain ⟨q0, q1, q2, q3, q4, q5, q6, q7, q8, q9, qB⟩ := id hD)
          | (go_at_call 96; with_reducible refine (HA.out _).mono ?_; rintro _ w' ⟨rfl, hb⟩; replace hD := hD.later (by first | exact hb | exact bt (Below.refl _ _).drew hb | exact bt (Below.refl _ _).drew.drew hb); clear hb; obtain ⟨q0, q1, q2, q3, q4, q5, q6, q7, q8, q9, qB⟩ := id hD))
         all_goals (go_wp2_with fail)
         all_goals go_ret
         all_goals (refine ⟨ri ?_, hD.below⟩; have hR := HR.out; (try simp only [beq_iff_eq, bne_iff_ne, beq_eq_false_iff_ne, decide_eq_true_eq, decide_eq_false_iff_not, Bool.not_eq_true, Bool.and_eq_true, Bool.or_eq_true, ne_eq] at *); omega))
end Bk
end
section
open Go.RowKit Go.Lib
namespace Bk
open Un (ba bt ri rb aX bP)
theorem own_below {w w' : World} {B e size n : Nat} {v : Value} {xs : List Value} (h : w.ownsRow B e size v n xs) (hb : Below w.heap.size w w') : w'.ownsRow B e size v n xs := by
 refine ⟨h.1, ?_⟩
 rcases h.2 with hn | ⟨g, cap, cur, rfl, hg, hgg, rest⟩
 . exact .inl hn
 . exact .inr ⟨g, cap, cur, rfl, hg, by rw [hb.block g (Array.getElem?_eq_some_iff.1 hgg).1]; exact hgg, rest⟩
theorem aE7 (y m : Int) (w : World) (m0 : 1 <= m) (m1 : m <= 12) : Calls Tryz.prog 125 #[.int .i64 y, .int .i64 m] w fun e w' => e = .returned (.int .i64 (Cal.len y m)) /\ w = w' := by
 by_cases h2 : m = 2
 . subst h2
   have t4 := Un.qU y 4; have t1 := Un.GR y 100; have t5 := Un.qU y 400
   by_cases a : y % 4 = 0 <;> by_cases b : y % 100 = 0 <;> by_cases c : y % 400 = 0 <;>
    simp only [a, b, c, decide_true, decide_false, Bool.not_true, Bool.not_false] at t4 t1 t5 <;>
    (have L : Hid (Cal.len y 2 = if (decide (y % 4 = 0) && (decide (y % 100 ≠ 0) || decide (y % 400 = 0))) then 29 else 28) := Lib.hid (by
      unfold Cal.len Cal.lp Cal.leap; rw [if_pos rfl]; split <;> rfl)
     simp only [a, b, c, ne_eq, not_true_eq_false, not_false_eq_true, decide_true, decide_false, Bool.true_and, Bool.false_and, Bool.or_true, Bool.or_false, Bool.true_or, if_true, if_false, Bool.false_eq_true] at L
     clear a b c m0 m1
     go_enter Tryz.func125, Tryz.ntmps125
     go_wp2
     go_ret
     exact ⟨ri (by first | exact L.out.symm | rfl), rfl⟩)
 . have : m = 1 \/ m = 3 \/ m = 4 \/ m = 5 \/ m = 6 \/ m = 7 \/ m = 8 \/ m = 9 \/ m = 10 \/ m = 11 \/ m = 12 := by omega
   rcases this with rfl | rfl | rfl | rfl | rfl | rfl | rfl | rfl | rfl | rfl | rfl <;>
    (clear m0 m1 h2
     go_enter Tryz.func125, Tryz.ntmps125
     go_wp2
     go_ret
     exact ⟨ri (by unfold Cal.len; simp), rfl⟩)
theorem VQ (d : Dt) (w : World) (hf : d.form = 0) :
 Calls Tryz.prog 124 #[bZ d] w (aKX d.ms w) := by
 have hD := Dm.new d w 37
 have HS := Lib.hid (fun w => uO d w)
 unfold bZ at HS
 have hbd : d.aH = 0 \/ (21 <= d.aH /\ d.aH <= 41) := jZ d.mo
 unfold bZ
 rcases kF hf with ⟨h1, h2, -⟩ | ⟨h1, h2, h3, -⟩ | ⟨h1, h2, -⟩
 . have x0 := yK h2
   rw [Dt.nU h1]
   have z0 : 21 <= d.aH := by omega
   clear hbd h1 h2 hf
   generalize d.aH = z at *
   go_enter Tryz.func124, Tryz.ntmps124
   go_upto_region 1 with (fail)
   generalize World.alloc _ _ = W0 at hD ⊢
   obtain ⟨q0, q1, q2, q3, q4, q5, q6, q7, q8, q9, qB⟩ := id hD
   go_wp2_with (go_at_call 35; with_reducible refine (HS.out _).mono ?_; rintro _ w' ⟨rfl, hb⟩; replace hD := hD.later (by first | exact hb | exact bt (Below.refl _ _).drew hb | exact bt (Below.refl _ _).drew.drew hb | exact bt (Below.refl _ _).drew.drew.drew hb); clear hb; obtain ⟨q0, q1, q2, q3, q4, q5, q6, q7, q8, q9, qB⟩ := id hD)
   go_ret
   exact ⟨_, rfl, bI.lit (w := w) z, ba hD.below _⟩
 . have x0 := yK h2
   obtain ⟨s2, sx, sn⟩ := kJ (by omega) h3
   rw [Dt.rQ h1 h2]
   rw [h1] at HS
   have HT := Lib.hid (fun (k : Nat) (hk : k < 12) (x : Int) (hx : x = if jJ d.mo ((k : Int) + 1) then 1 else 0) w => (by rw [hx]; exact uQ d.mo (k + 1) w (by omega) : Calls Tryz.prog 123 #[.string d.mo, .int .i64 ((k : Int) + 1)] w fun r w' => r = .returned (.int .i64 x) /\ Below w.heap.size w w'))
   have SN := Lib.hid sn
   obtain ⟨i0, hi, hz0, hz1, hz2⟩ := info_parts XG
   have HI := Lib.hid hi; have HZ0 := Lib.hid hz0; have HZ1 := Lib.hid hz1; have HZ2 := Lib.hid hz2
   clear hbd h1 h2 h3 hf sn sx s2 hi hz0 hz1 hz2
   go_enter Tryz.func124, Tryz.ntmps124
   go_upto_region 1 with (fail)
   generalize World.alloc _ _ = W0 at hD ⊢
   obtain ⟨q0, q1, q2, q3, q4, q5, q6, q7, q8, q9, qB⟩ := id hD
   go_wp2_with (go_at_call 35; with_reducible refine (HS.out _).mono ?_; rintro _ w' ⟨rfl, hb⟩; replace hD := hD.later (by first | exact hb | exact bt (Below.refl _ _).drew hb | exact bt (Below.refl _ _).drew.drew hb | exact bt (Below.refl _ _).drew.drew.drew hb); clear hb; obtain ⟨q0, q1, q2, q3, q4, q5, q6, q7, q8, q9, qB⟩ := id hD)
   go_loopw [3, 4] (fun v i wr => ∃ k : Nat, k <= 12 /\ i = .int .i64 ((k : Int) + 1) /\ wr.ownsRow w'.heap.size 3 1 v (dV d.mo k).length ((dV d.mo k).map (Value.int .i64)) /\ Below w'.heap.size w' wr) (fun _ i _ => 13 - (intOf i).toNat)
   case atStart => exact ⟨0, Nat.zero_le _, rfl, World.ownsRow_nil _ _ _ _, Below.refl _ _⟩
   case round =>
    obtain ⟨k, hk, rfl, hown, hb⟩ := hrel
    clear q0 q1 q2 q3 q4 q5 q6 q7 q8 q9 qB
    by_cases hlt : k < 12
    . have hle := aB5 d.mo k
      have hD2 := hD.later hb
      obtain ⟨q0, q1, q2, q3, q4, q5, q6, q7, q8, q9, qB⟩ := id hD2
      cases ha : jJ d.mo ((k : Int) + 1)
      . as_aux_lemma =>
         have HA := Lib.hid (fun w => HT.out k hlt 0 (by rw [ha]; rfl) w)
         have HE := Lib.hid (J9 ha)
         have HO := Lib.hid hown
         have HB := Lib.hid hb
         clear ha hown hb
         go_wp2_with (go_at_call 123; with_reducible refine (HA.out _).mono ?_; rintro _ w2 ⟨rfl, hb⟩)
         have HB2 := Lib.hid (bt HB.out hb)
         have hO2 := Lib.hid (own_below HO.out hb)
         go_roundw
         case rel => exact ⟨k + 1, by omega, by go_num, by rw [HE.out]; exact hO2.out, HB2.out⟩
         case measure => simp [intOf]; omega
      . as_aux_lemma =>
         have HA := Lib.hid (fun w => HT.out k hlt 1 (by rw [ha]; rfl) w)
         have HE := Lib.hid (CW ha)
         have HO := Lib.hid hown
         have HB := Lib.hid hb
         clear ha hown hb
         go_wp2_with (first
          | (go_at_call 123; with_reducible refine (HA.out _).mono ?_; rintro _ w2 ⟨rfl, hb⟩; have hown := own_below HO.out hb; have hB1 := bt HB.out hb)
          | (at_builtin; refine wpList_append_own _ rfl _ _ 114 rfl w'.heap.size 3 i0 (.int .i64 0) 1 8 Tryz.underlying114 HI.out HZ0.out HZ1.out HZ2.out rfl (by decide) _ _ _ rfl (hown.alloc _) ⟨w2.heap.size, 0, none⟩ 1 1 [.int .i64 ((k : Int) + 1)] rfl rfl ?c1 ?c2 ?c3 ?c4 ?c5 ?_))
         case c1 =>
          intro j u hj
          match j, hj with
          | 0, hj => simp at hj; subst hj; simp [Addr.add]
         case c2 => intro u hu; simp at hu; subst hu; rfl
         case c3 => unfold maxLen; omega
         case c4 => omega
         case c5 => have := hB1.size; simp; omega
         intro v' w3 hown' hgrow _
         have hB2 := (hB1.alloc hB1.size (.cells #[.int .i64 ((k : Int) + 1)] 3)).grown hgrow (by have := hB1.size; simp; omega) (fun j hj => (hown.lt j hj).1)
         have hO2 : w3.ownsRow w'.heap.size 3 1 v' (dV d.mo (k + 1)).length ((dV d.mo (k + 1)).map (Value.int .i64)) := by rw [HE.out]; simpa using hown'
         replace hB2 := Lib.hid hB2
         replace hO2 := Lib.hid hO2
         clear hown' hgrow hown hB1
         go_wp2
         go_roundw
         case rel => exact ⟨k + 1, by omega, by go_num, hO2.out, hB2.out⟩
         case measure => simp [intOf]; omega
    . as_aux_lemma =>
       obtain rfl : k = 12 := by omega
       have hS := bI.own hown SN.out
       have HB := Lib.hid (bt hD.below hb)
       replace hS := Lib.hid hS
       clear hown hb HT
       go_wp2
       go_ret
       exact ⟨_, rfl, hS.out, HB.out⟩
 . have x0 := zW h2
   rw [Dt.zI h1 h2]
   clear hbd h1 h2 hf HS
   go_enter Tryz.func124, Tryz.ntmps124
   go_upto_region 1 with (fail)
   generalize World.alloc _ _ = W0 at hD ⊢
   obtain ⟨q0, q1, q2, q3, q4, q5, q6, q7, q8, q9, qB⟩ := id hD
   go_wp2_with fail
   go_ret
   exact ⟨_, rfl, bI.lit (w := w) 0, ba hD.below _⟩
end Bk
end
section
open Go.RowKit Go.Lib
namespace Bk
open Un (ba bt ri rb aX bP)
def Dt.yl (d : Dt) (y m : Int) : List Int := if d.da.size = 0 then [0] else dV d.da (Cal.len y m).toNat
def aPM (y m k : Int) : List Value := [.int .i64 y, .int .i64 m, .int .i64 k]
def rV (y m : Int) (l : List Int) : List Value := l.flatMap fun k => aPM y m k
def Dt.qJ (d : Dt) (y : Int) (ms : List Int) : Nat := (ms.map fun m => (d.yl y m).length).sum
def Dt.qL (d : Dt) (y : Int) (ms : List Int) : List Value := ms.flatMap fun m => rV y m (d.yl y m)
theorem XA (y m : Int) (l : List Int) (k : Int) : rV y m (l ++ [k]) = rV y m l ++ aPM y m k := by unfold rV; rw [List.flatMap_append]; simp
theorem Dt.aCC (d : Dt) (y : Int) (ms : List Int) (m : Int) : d.qJ y (ms ++ [m]) = d.qJ y ms + (d.yl y m).length := by unfold Dt.qJ; simp
theorem Dt.UF (d : Dt) (y : Int) (ms : List Int) (m : Int) : d.qL y (ms ++ [m]) = d.qL y ms ++ rV y m (d.yl y m) := by unfold Dt.qL; rw [List.flatMap_append]; simp
theorem aGC {d : Dt} {y m k : Int} : k ∈ d.yl y m ↔ (k ∈ d.ds /\ k <= d.len y m) := by
 have hl := Cal.gI y m
 unfold Dt.yl Dt.len Dt.ds
 by_cases c : d.da.size = 0
 . rw [if_pos c, if_pos c, if_pos c]; simp; omega
 . rw [if_neg c, if_neg c, if_neg c, iH, iH]
   constructor
   . rintro ⟨h1, h2, h3⟩; exact ⟨⟨h1, by omega, h3⟩, by omega⟩
   . rintro ⟨⟨h1, h2, h3⟩, h4⟩; exact ⟨h1, by omega, h3⟩
theorem aBl (d : Dt) (y : Int) : ∀ ms : List Int, d.qJ y ms <= 31 * ms.length
 | [] => Nat.zero_le _
 | m :: r => by
  have := aBl d y r
  have h2 : (d.yl y m).length <= 31 := by
   unfold Dt.yl
   split
   . simp
   . have := nZ d.da (Cal.len y m).toNat; have := Cal.gI y m; omega
  unfold Dt.qJ at *
  simp at *; omega
theorem aFx {w : World} {base base' : Nat} {e : TypeId} {size : Nat} {v : Value} {n : Nat} {xs : List Value} (h : w.ownsRow base e size v n xs) (hb : base' <= base) : w.ownsRow base' e size v n xs :=
 ⟨h.1, h.2.imp id fun ⟨g, cap, cur, h1, h2, h3⟩ => ⟨g, cap, cur, h1, Nat.le_trans hb h2, h3⟩⟩
theorem aGS : (Tryz.prog.info? 112).map (fun i => (i.zero, i.size, i.bytes)) = some (some (.agg #[.int .i64 0, .int .i64 0, .int .i64 0]), 3, 24) := by kernel_rfl
def aP0 (d : Dt) (y : Int) (w : World) (e : Ending) (w' : World) : Prop := ∃ v, e = .returned v /\ w'.ownsRow w.heap.size 112 3 v (d.qJ y d.ms) (d.qL y d.ms) /\ Below w.heap.size w w'
theorem aIB (d : Dt) (y : Int) (w : World) (hf : d.form = 0) :
 Calls Tryz.prog 99 #[bZ d, .int .i64 y] w (aP0 d y w) := by
 have hD := Dm.new d w 37
 have HM := Lib.hid (fun w => VQ d w hf)
 have hmm := Lib.hid (fmm hf)
 have hml := d.QJ
 unfold bZ at HM
 unfold bZ
 obtain ⟨i0, hi, hz0, hz1, hz2⟩ := info_parts aGS
 have HI := Lib.hid hi; have HZ0 := Lib.hid hz0; have HZ1 := Lib.hid hz1; have HZ2 := Lib.hid hz2
 clear hi hz0 hz1 hz2 hf
 go_enter Tryz.func99, Tryz.ntmps99
 go_upto_region 1 with (fail)
 generalize World.alloc _ _ = W0 at hD ⊢
 obtain ⟨q0, q1, q2, q3, q4, q5, q6, q7, q8, q9, qB⟩ := id hD
 go_wp2_with (go_at_call 124; refine (HM.out _).mono ?_; rintro _ w1 ⟨mv, rfl, hm, hb⟩; replace hD := hD.later hb; clear hb)
 clear HM
 obtain ⟨gm, cm, rfl, hg, hc⟩ := hm
 have HC := Lib.hid hc
 clear hc q0 q1 q2 q3 q4 q5 q6 q7 q8 q9 qB
 have HW1 := Lib.hid hD.below
 go_loopw [5, 7] (fun v i wr => ∃ k : Nat, k <= d.ms.length /\ i = .int .i64 k /\ wr.ownsRow w1.heap.size 112 3 v (d.qJ y (d.ms.take k)) (d.qL y (d.ms.take k)) /\ Below w1.heap.size w1 wr) (fun _ i _ => 14 - (intOf i).toNat)
 case atStart => exact ⟨0, Nat.zero_le _, rfl, World.ownsRow_nil _ _ _ _, Below.refl _ _⟩
 case round =>
  obtain ⟨k, hk, rfl, hown, hb⟩ := hrel
  have hD2 := hD.later hb
  obtain ⟨q0, q1, q2, q3, q4, q5, q6, q7, q8, q9, qB⟩ := id hD2
  by_cases hlt : k < d.ms.length
  . have hcell : wr.cell? ⟨gm, k, none⟩ = some (.int .i64 (d.ms[k]'hlt)) := (hb.cell (p := ⟨gm, k, none⟩) hg).trans (HC.out k hlt)
    have htk : d.ms.take (k + 1) = d.ms.take k ++ [d.ms[k]'hlt] := by rw [List.take_succ_eq_append_getElem hlt]
    have HL1 := Lib.hid (htk ▸ d.aCC y (d.ms.take k) (d.ms[k]'hlt) : d.qJ y (d.ms.take (k + 1)) = d.qJ y (d.ms.take k) + (d.yl y (d.ms[k]'hlt)).length)
    have HL2 := Lib.hid (htk ▸ d.UF y (d.ms.take k) (d.ms[k]'hlt) : d.qL y (d.ms.take (k + 1)) = d.qL y (d.ms.take k) ++ rV y (d.ms[k]'hlt) (d.yl y (d.ms[k]'hlt)))
    have hle := aBl d y (d.ms.take k)
    have htl : (d.ms.take k).length <= k := List.length_take_le _ _
    have aMi := fun h => hmm.out h (d.ms[k]'hlt) (List.getElem_mem hlt)
    generalize d.qJ y (d.ms.take k) = N0 at *
    generalize d.qL y (d.ms.take k) = C0 at *
    have HM0 := Lib.hid (HC.out k hlt)
    generalize (d.ms[k]'hlt) = m at *
    clear htk
    rcases bQ d.da with ⟨e1, x1⟩ | ⟨e1, x1⟩
    . have eyl : d.yl y m = [0] := by unfold Dt.yl; rw [if_pos e1]
      rw [eyl] at HL1 HL2
      have HB := Lib.hid hb
      clear eyl aMi e1 hb
      as_aux_lemma =>
       go_wp2_with (at_builtin; refine wpList_append_own _ rfl _ _ 125 rfl w1.heap.size 112 i0 (.agg #[.int .i64 0, .int .i64 0, .int .i64 0]) 3 24 Tryz.underlying125 HI.out HZ0.out HZ1.out HZ2.out rfl (by decide) _ _ _ rfl (hown.alloc _) ⟨wr.heap.size, 0, none⟩ 1 1 [.int .i64 y, .int .i64 m, .int .i64 0] rfl rfl ?c1 ?c2 ?c3 ?c4 ?c5 ?_)
       case c1 =>
        intro j u hj
        match j, hj with
        | 0, hj => simp at hj; subst hj; simp [Addr.add]
        | 1, hj => simp at hj; subst hj; simp [Addr.add]
        | 2, hj => simp at hj; subst hj; simp [Addr.add]
       case c2 => intro u hu; simp at hu; rcases hu with rfl | rfl | rfl <;> rfl
       case c3 => unfold maxLen; omega
       case c4 => omega
       case c5 => have := HB.out.size; simp; omega
       intro v' w3 hown' hgrow _
       have hB2 := (HB.out.alloc HB.out.size (.cells #[.int .i64 y, .int .i64 m, .int .i64 0] 112)).grown hgrow (by have := HB.out.size; simp; omega) (fun j hj => (hown.lt j hj).1)
       have hO2 : w3.ownsRow w1.heap.size 112 3 v' (d.qJ y (d.ms.take (k + 1))) (d.qL y (d.ms.take (k + 1))) := by rw [HL1.out, HL2.out]; exact hown'
       replace hB2 := Lib.hid hB2
       replace hO2 := Lib.hid hO2
       clear hown' hgrow hown
       go_wp2
       go_roundw
       case rel => exact ⟨k + 1, by omega, by go_num, hO2.out, hB2.out⟩
       case measure => simp [intOf]; omega
    . obtain ⟨m0, m12⟩ := aMi e1
      have eyl : d.yl y m = dV d.da (Cal.len y m).toNat := by unfold Dt.yl; rw [if_neg e1]
      have hlb := Cal.gI y m
      have HLen := Lib.hid (fun w => aE7 y m w m0 m12)
      rw [eyl] at HL1 HL2
      have HT := Lib.hid (fun (j : Nat) (hj : j < 31) (x : Int) (hx : x = if jJ d.da ((j : Int) + 1) then 1 else 0) w => (by rw [hx]; exact uQ d.da (j + 1) w (by omega) : Calls Tryz.prog 123 #[.string d.da, .int .i64 ((j : Int) + 1)] w fun r w' => r = .returned (.int .i64 x) /\ Below w.heap.size w w'))
      obtain ⟨L, hL⟩ : ∃ L : Nat, Cal.len y m = L := ⟨(Cal.len y m).toNat, by omega⟩
      rw [hL] at HLen HL1 HL2 hlb
      rw [Int.toNat_natCast] at HL1 HL2
      clear eyl aMi e1 hL m0 m12
      have HB := Lib.hid hb
      clear hb
      go_wp2
      clear q0 q1 q2 q3 q4 q5 q6 q7 q8 q9 qB
      go_loopw [5, 8] (fun v i wr2 => ∃ j : Nat, j <= L /\ i = Value.int .i64 ((j : Int) + 1) /\ wr2.ownsRow w1.heap.size 112 3 v (N0 + (dV d.da j).length) (C0 ++ rV y m (dV d.da j)) /\ Below w1.heap.size w1 wr2) (fun _ i _ => 33 - (intOf i).toNat)
      case atStart => exact ⟨0, Nat.zero_le _, rfl, by simpa [dV, rV] using hown, HB.out⟩
      case round =>
       obtain ⟨j, hj, rfl, hown, hb⟩ := hrel
       have hD2 := hD.later hb
       obtain ⟨q0, q1, q2, q3, q4, q5, q6, q7, q8, q9, qB⟩ := id hD2
       have hcell : wr.cell? ⟨gm, k, none⟩ = some (.int .i64 m) := by exact (hb.cell (p := ⟨gm, k, none⟩) hg).trans HM0.out
       by_cases hlt2 : j < L
       . have hle2 := nZ d.da j
         cases ha : jJ d.da ((j : Int) + 1)
         . have HA := Lib.hid (fun w => HT.out j (by omega) 0 (by rw [ha]; rfl) w)
           have HE := Lib.hid (J9 ha)
           have HO := Lib.hid hown
           have HB3 := Lib.hid hb
           clear ha hown hb
           as_aux_lemma =>
            go_wp2_with (first
             | (go_at_call 125; with_reducible refine (HLen.out _).mono ?_; rintro _ w' ⟨rfl, rfl⟩)
             | (go_at_call 123; with_reducible refine (HA.out _).mono ?_; rintro _ w4 ⟨rfl, hb⟩))
            have HB4 := Lib.hid (bt HB3.out hb)
            have hO2 := Lib.hid (own_below HO.out hb)
            go_roundw
            case rel => exact ⟨j + 1, by omega, by go_num, by rw [HE.out]; exact hO2.out, HB4.out⟩
            case measure => simp [intOf]; omega
         . have HA := Lib.hid (fun w => HT.out j (by omega) 1 (by rw [ha]; rfl) w)
           have HE := Lib.hid (CW ha)
           have HO := Lib.hid hown
           have HB3 := Lib.hid hb
           clear ha hown hb
           as_aux_lemma =>
            go_wp2_with (first
             | (go_at_call 125; with_reducible refine (HLen.out _).mono ?_; rintro _ w' ⟨rfl, rfl⟩)
             | (go_at_call 123; with_reducible refine (HA.out _).mono ?_; rintro _ w4 ⟨rfl, hb⟩; have hown := own_below HO.out hb; have hB1 := bt HB3.out hb; have hcell2 : w4.cell? ⟨gm, k, none⟩ = some (.int .i64 m) := (hB1.cell (p := ⟨gm, k, none⟩) hg).trans HM0.out)
             | (at_builtin; refine wpList_append_own _ rfl _ _ 125 rfl w1.heap.size 112 i0 (.agg #[.int .i64 0, .int .i64 0, .int .i64 0]) 3 24 Tryz.underlying125 HI.out HZ0.out HZ1.out HZ2.out rfl (by decide) _ _ _ rfl (hown.alloc _) ⟨w4.heap.size, 0, none⟩ 1 1 [.int .i64 y, .int .i64 m, .int .i64 ((j : Int) + 1)] rfl rfl ?c1 ?c2 ?c3 ?c4 ?c5 ?_))
            case c1 =>
             intro j u hj
             match j, hj with
             | 0, hj => simp at hj; subst hj; simp [Addr.add]
             | 1, hj => simp at hj; subst hj; simp [Addr.add]
             | 2, hj => simp at hj; subst hj; simp [Addr.add]
            case c2 => intro u hu; simp at hu; rcases hu with rfl | rfl | rfl <;> rfl
            case c3 => unfold maxLen; omega
            case c4 => omega
            case c5 => have := hB1.size; simp; omega
            intro v' w3 hown' hgrow _
            have hB2 := (hB1.alloc hB1.size (.cells #[.int .i64 y, .int .i64 m, .int .i64 ((j : Int) + 1)] 112)).grown hgrow (by have := hB1.size; simp; omega) (fun j hj => (hown.lt j hj).1)
            have hO2 : w3.ownsRow w1.heap.size 112 3 v' (N0 + (dV d.da (j + 1)).length) (C0 ++ rV y m (dV d.da (j + 1))) := by
             rw [HE.out, XA, List.length_append, <- Nat.add_assoc]; exact hown'
            replace hB2 := Lib.hid hB2
            replace hO2 := Lib.hid hO2
            clear hown' hgrow hown
            go_wp2
            go_roundw
            case rel => exact ⟨j + 1, by omega, by go_num, hO2.out, hB2.out⟩
            case measure => simp [intOf]; omega
       . obtain rfl : j = L := by omega
         have hO2 : wr.ownsRow w1.heap.size 112 3 u5 (d.qJ y (d.ms.take (k + 1))) (d.qL y (d.ms.take (k + 1))) := by rw [HL1.out, HL2.out]; exact hown
         replace hO2 := Lib.hid hO2
         have HB3 := Lib.hid hb
         clear hown hb
         as_aux_lemma =>
          go_wp2_with (go_at_call 125; with_reducible refine (HLen.out _).mono ?_; rintro _ w' ⟨rfl, rfl⟩)
          go_roundw
          case rel => exact ⟨k + 1, by omega, by go_num, hO2.out, HB3.out⟩
          case measure => simp [intOf]; omega
  . obtain rfl : k = d.ms.length := by omega
    rw [List.take_length] at hown
    have HO := Lib.hid (aFx hown HW1.out.size)
    have HB := Lib.hid (bt HW1.out hb)
    clear hown hb HC hmm
    go_wp2
    go_ret
    exact ⟨_, rfl, HO.out, HB.out⟩
theorem UA {d : Dt} {y : Int} : 0 < d.qJ y d.ms ↔ ∃ m k, m ∈ d.ms /\ k ∈ d.ds /\ k <= d.len y m := by
 unfold Dt.qJ
 constructor
 . intro h
   by_cases c : ∃ m, m ∈ d.ms /\ d.yl y m ≠ []
   . obtain ⟨m, hm, hn⟩ := c
     obtain ⟨k, hk⟩ := List.exists_mem_of_ne_nil _ hn
     exact ⟨m, k, hm, aGC.1 hk⟩
   . exfalso
     have : (d.ms.map fun m => (d.yl y m).length).sum = 0 := by
      have h2 : ∀ l : List Int, (∀ m, m ∈ l -> d.yl y m = []) -> (l.map fun m => (d.yl y m).length).sum = 0 := by
       intro l
       induction l with
       | nil => intro _; rfl
       | cons a l ih => intro h; simp [h a (List.mem_cons_self ..), ih (fun m hm => h m (List.mem_cons_of_mem _ hm))]
      exact h2 d.ms (fun m hm => by
       cases e : d.yl y m with
       | nil => rfl
       | cons a l => exact absurd ⟨m, hm, by rw [e]; simp⟩ c)
     omega
 . rintro ⟨m, k, hm, hk⟩
   have hk := aGC.2 hk
   have h2 : ∀ l : List Int, m ∈ l -> 0 < (l.map fun m => (d.yl y m).length).sum := by
    intro l
    induction l with
    | nil => intro h; cases h
    | cons a l ih =>
     intro h
     rcases List.mem_cons.1 h with rfl | h
     . have : 0 < (d.yl y m).length := List.length_pos_of_mem hk
       simp; omega
     . have := ih h; simp; omega
   exact h2 d.ms hm
theorem aDf {w : World} {base : Nat} {e : TypeId} {size : Nat} {v : Value} {n : Nat} {xs : List Value} (h : w.ownsRow base e size v n xs) : ∃ bs cp, v = .slice bs n cp := by
 rcases h.2 with ⟨rfl, rfl⟩ | ⟨g, cap, cur, rfl, _⟩
 . exact ⟨none, 0, rfl⟩
 . exact ⟨_, _, rfl⟩
theorem VP (d : Dt) (w : World) (hy : d.dg.size <= 1000) (hf : d.form = 0) (hs : d.sig <= 0) :
 Calls Tryz.prog 72 #[bZ d] w (aKZ (∃ y m k, d.Fill y m k) w) := by
 have hk := (Dt.gK (Dt.jO hf).1).1
 have hD := Dm.new d w 37
 have HSP := Lib.hid (fun w => aDc d w hy hk hs)
 have HIN := Lib.hid (fun y w h0 h1 => aIC d y w hy hk hs h0 h1)
 have HYL := Lib.hid (fun y w => aIB d y w hf)
 unfold yv at HSP HIN
 unfold bZ at HYL
 unfold bZ
 obtain ⟨P, hP⟩ : ∃ P : Prop, P = ∃ y m k, d.Fill y m k := ⟨_, rfl⟩
 rw [<- hP]
 have HP1 : Hid (∀ y, d.In y -> 0 < d.qJ y d.ms -> P) := Lib.hid (fun y h1 h2 => by
  obtain ⟨m, k, hm, hk⟩ := UA.1 h2
  rw [hP]; exact ⟨y, m, k, h1, hm, hk⟩)
 have HP2 : Hid (∀ a b : Int, (∀ y, d.In y -> a <= y /\ y <= b) -> (∀ y, a <= y -> y <= b -> d.In y -> d.qJ y d.ms = 0) -> ¬ P) := Lib.hid (fun a b h1 h2 c => by
  rw [hP] at c
  obtain ⟨y, m, k, f1, f2, f3⟩ := c
  have := h1 y f1
  have h0 := h2 y this.1 this.2 f1
  have := UA.2 ⟨m, k, f2, f3⟩
  omega)
 clear hP hk hf
 go_enter Tryz.func72, Tryz.ntmps72
 go_upto_region 1 with (fail)
 generalize World.alloc _ _ = W0 at hD ⊢
 obtain ⟨q0, q1, q2, q3, q4, q5, q6, q7, q8, q9, qB⟩ := id hD
 go_wp2_with (go_at_call 97; refine (HSP.out _).mono ?_; rintro _ w1 ⟨a, b, hab, a0, b0, rfl, hb⟩; replace hD := hD.later hb; clear hb)
 have HAB := Lib.hid hab
 clear hab q0 q1 q2 q3 q4 q5 q6 q7 q8 q9 qB HSP
 go_loopw [5] (fun i wr => ∃ y : Int, a <= y /\ (y <= b + 1 \/ y = a) /\ i = .int .i64 y /\ (∀ z, a <= z -> z < y -> d.In z -> d.qJ z d.ms = 0) /\ Dm w.heap.size d w wr) (fun i _ => (b + 1 - intOf i).toNat)
 case atStart => exact ⟨a, by omega, .inr rfl, rfl, fun z h1 h2 => by omega, hD⟩
 case round =>
  obtain ⟨y, hy0, hy1, rfl, hz, hD⟩ := hrel
  obtain ⟨q0, q1, q2, q3, q4, q5, q6, q7, q8, q9, qB⟩ := id hD
  have HZ := Lib.hid hz
  clear hz
  by_cases hlt : y <= b
  . have HI := Lib.hid (fun w => HIN.out y w (by omega) (by omega))
    by_cases hi : d.In y
    . have HI2 : Hid (∀ w, Calls Tryz.prog 98 #[.agg #[.bool d.neg, .bool d.long, .string d.dg, .int .i64 d.ex, .int .i64 d.sig], .int .i64 y] w fun r w' => r = .returned (.int .i64 1) /\ Below w.heap.size w w') := Lib.hid (fun w => by
       refine (HI.out w).mono ?_; rintro e w' ⟨x, ⟨rfl, _⟩ | ⟨rfl, h⟩, rfl, hb⟩
       . exact ⟨rfl, hb⟩
       . exact absurd hi h)
      have hL : ∀ w, Calls Tryz.prog 99 #[.agg #[.bool d.neg, .bool d.long, .string d.dg, .int .i64 d.ex, .int .i64 d.sig, .string d.mo, .string d.da, .int .u8 d.m0, .int .u8 d.m1, .int .u8 d.m2], .int .i64 y] w fun r w' => (∃ bs cp, r = .returned (.slice bs (d.qJ y d.ms) cp)) /\ Below w.heap.size w w' := fun w => by
       refine (HYL.out y w).mono ?_; rintro e w' ⟨v, rfl, hown, hb⟩
       obtain ⟨bs, cp, rfl⟩ := aDf hown
       exact ⟨⟨bs, cp, rfl⟩, hb⟩
      by_cases hn : d.qJ y d.ms = 0
      . rw [hn] at hL
        have HL := Lib.hid hL
        have HN := Lib.hid hn
        clear hL hn HI HYL HIN
        as_aux_lemma =>
         go_wp2_with (first
          | (go_at_call 98; with_reducible refine (HI2.out _).mono ?_; rintro _ w2 ⟨rfl, hb⟩; replace hD := hD.later (by first | exact hb | exact bt (Below.refl _ _).drew hb | exact bt (Below.refl _ _).drew.drew hb | exact bt (Below.refl _ _).drew.drew.drew hb); clear hb; obtain ⟨q0, q1, q2, q3, q4, q5, q6, q7, q8, q9, qB⟩ := id hD)
          | (go_at_call 99; with_reducible refine (HL.out _).mono ?_; rintro _ w3 ⟨⟨bs, cp, rfl⟩, hb⟩; replace hD := hD.later (by first | exact hb | exact bt (Below.refl _ _).drew hb | exact bt (Below.refl _ _).drew.drew hb | exact bt (Below.refl _ _).drew.drew.drew hb); clear hb; obtain ⟨q0, q1, q2, q3, q4, q5, q6, q7, q8, q9, qB⟩ := id hD))
         go_roundw
         case rel => exact ⟨y + 1, by omega, .inl (by omega), by go_num, fun z h1 h2 h3 => by
          by_cases e : z = y
          . subst e; exact HN.out
          . exact HZ.out z h1 (by omega) h3, hD⟩
         case measure => simp [intOf]; omega
      . have HPP := Lib.hid (HP1.out y hi (by omega))
        obtain ⟨N, hN⟩ : ∃ N, d.qJ y d.ms = N + 1 := ⟨d.qJ y d.ms - 1, by omega⟩
        rw [hN] at hL
        have HL := Lib.hid hL
        clear hL hn HI HYL HIN hN
        as_aux_lemma =>
         go_wp2_with (first
          | (go_at_call 98; with_reducible refine (HI2.out _).mono ?_; rintro _ w2 ⟨rfl, hb⟩; replace hD := hD.later (by first | exact hb | exact bt (Below.refl _ _).drew hb | exact bt (Below.refl _ _).drew.drew hb | exact bt (Below.refl _ _).drew.drew.drew hb); clear hb; obtain ⟨q0, q1, q2, q3, q4, q5, q6, q7, q8, q9, qB⟩ := id hD)
          | (go_at_call 99; with_reducible refine (HL.out _).mono ?_; rintro _ w3 ⟨⟨bs, cp, rfl⟩, hb⟩; replace hD := hD.later (by first | exact hb | exact bt (Below.refl _ _).drew hb | exact bt (Below.refl _ _).drew.drew hb | exact bt (Below.refl _ _).drew.drew.drew hb); clear hb; obtain ⟨q0, q1, q2, q3, q4, q5, q6, q7, q8, q9, qB⟩ := id hD))
         all_goals first
          | (go_ret; exact ⟨1, .inl ⟨rfl, HPP.out⟩, rfl, hD.below⟩)
          | (exfalso; omega)
    . have HI2 : Hid (∀ w, Calls Tryz.prog 98 #[.agg #[.bool d.neg, .bool d.long, .string d.dg, .int .i64 d.ex, .int .i64 d.sig], .int .i64 y] w fun r w' => r = .returned (.int .i64 0) /\ Below w.heap.size w w') := Lib.hid (fun w => by
       refine (HI.out w).mono ?_; rintro e w' ⟨x, ⟨rfl, h⟩ | ⟨rfl, _⟩, rfl, hb⟩
       . exact absurd h hi
       . exact ⟨rfl, hb⟩)
      have HN := Lib.hid hi
      clear HI HYL HIN hi
      as_aux_lemma =>
       go_wp2_with (go_at_call 98; with_reducible refine (HI2.out _).mono ?_; rintro _ w2 ⟨rfl, hb⟩; replace hD := hD.later (by first | exact hb | exact bt (Below.refl _ _).drew hb | exact bt (Below.refl _ _).drew.drew hb | exact bt (Below.refl _ _).drew.drew.drew hb); clear hb; obtain ⟨q0, q1, q2, q3, q4, q5, q6, q7, q8, q9, qB⟩ := id hD)
       go_roundw
       case rel => exact ⟨y + 1, by omega, .inl (by omega), by go_num, fun z h1 h2 h3 => by
        by_cases e : z = y
        . subst e; exact absurd h3 HN.out
        . exact HZ.out z h1 (by omega) h3, hD⟩
       case measure => simp [intOf]; omega
  . have HNP := Lib.hid (HP2.out a b HAB.out (fun z h1 h2 h3 => HZ.out z h1 (by omega) h3))
    clear HZ HAB HYL HIN
    as_aux_lemma =>
     go_wp2
     go_ret
     exact ⟨0, .inr ⟨rfl, HNP.out⟩, rfl, hD.below⟩
theorem QD (d : Dt) (w : World) (hy : d.dg.size <= 1000) (s0 : -9223372036854775808 <= d.sig) (s1 : d.sig < 9223372036854775808) (m0 : 0 <= d.m0) (m1 : 0 <= d.m1) (m2 : 0 <= d.m2) :
 Calls Tryz.prog 45 #[bZ d] w fun r w' => r = .returned (.int .i64 d.err) /\ Below w.heap.size w w' := by
 have hD := Dm.new d w 37
 have HC := Lib.hid (fun w => VR d w hy s0 s1 m0 m1 m2)
 unfold bZ at HC
 obtain ⟨R, hR⟩ : ∃ R, R = d.err := ⟨_, rfl⟩
 rw [<- hR]
 unfold bZ
 by_cases hf : d.form = 0
 case neg =>
  rw [vP hf] at hR
  rw [<- hR] at HC hf
  clear hR
  go_enter Tryz.func45, Tryz.ntmps45
  go_upto_region 1 with (fail)
  generalize World.alloc _ _ = W0 at hD ⊢
  obtain ⟨q0, q1, q2, q3, q4, q5, q6, q7, q8, q9, qB⟩ := id hD
  go_wp2_with (go_at_call 71; with_reducible refine (HC.out _).mono ?_; rintro _ w' ⟨rfl, hb⟩; replace hD := hD.later (by first | exact hb | exact bt (Below.refl _ _).drew hb | exact bt (Below.refl _ _).drew.drew hb | exact bt (Below.refl _ _).drew.drew.drew hb); clear hb; obtain ⟨q0, q1, q2, q3, q4, q5, q6, q7, q8, q9, qB⟩ := id hD)
  go_ret
  exact ⟨rfl, hD.below⟩
 rw [hf] at HC
 rcases bQ d.da with ⟨c, x⟩ | ⟨c, x⟩
 case inl =>
  rw [OM hf c] at hR
  subst hR
  clear c hf
  go_enter Tryz.func45, Tryz.ntmps45
  go_upto_region 1 with (fail)
  generalize World.alloc _ _ = W0 at hD ⊢
  obtain ⟨q0, q1, q2, q3, q4, q5, q6, q7, q8, q9, qB⟩ := id hD
  go_wp2_with (go_at_call 71; with_reducible refine (HC.out _).mono ?_; rintro _ w' ⟨rfl, hb⟩; replace hD := hD.later (by first | exact hb | exact bt (Below.refl _ _).drew hb | exact bt (Below.refl _ _).drew.drew hb | exact bt (Below.refl _ _).drew.drew.drew hb); clear hb; obtain ⟨q0, q1, q2, q3, q4, q5, q6, q7, q8, q9, qB⟩ := id hD)
  go_ret
  exact ⟨rfl, hD.below⟩
 have hsg : d.sig <= 0 := by
  have := (Dt.gK (Dt.jO hf).1).2.1
  by_cases g : 0 < d.sig
  . exact absurd (fmd hf (this g)) c
  . omega
 have hS := fun w => VP d w hy hf hsg
 unfold bZ at hS
 by_cases hP : ∃ y m k, d.Fill y m k
 . have HS : Hid (∀ w, Calls Tryz.prog 72 #[.agg #[.bool d.neg, .bool d.long, .string d.dg, .int .i64 d.ex, .int .i64 d.sig, .string d.mo, .string d.da, .int .u8 d.m0, .int .u8 d.m1, .int .u8 d.m2]] w fun r w' => r = .returned (.int .i64 1) /\ Below w.heap.size w w') := Lib.hid (fun w => by
    refine (hS w).mono ?_; rintro e w' ⟨x, ⟨rfl, _⟩ | ⟨rfl, h⟩, rfl, hb⟩
    . exact ⟨rfl, hb⟩
    . exact absurd hP h)
   have hR0 : R = 0 := by rw [hR]; unfold Dt.err; rw [if_neg (by omega), if_neg (fun h => h.2 hP)]
   subst hR0
   clear hS hR hP hf c
   go_enter Tryz.func45, Tryz.ntmps45
   go_upto_region 1 with (fail)
   generalize World.alloc _ _ = W0 at hD ⊢
   obtain ⟨q0, q1, q2, q3, q4, q5, q6, q7, q8, q9, qB⟩ := id hD
   go_wp2_with (first | (go_at_call 71; with_reducible refine (HC.out _).mono ?_; rintro _ w' ⟨rfl, hb⟩; replace hD := hD.later (by first | exact hb | exact bt (Below.refl _ _).drew hb | exact bt (Below.refl _ _).drew.drew hb | exact bt (Below.refl _ _).drew.drew.drew hb); clear hb; obtain ⟨q0, q1, q2, q3, q4, q5, q6, q7, q8, q9, qB⟩ := id hD) | (go_at_call 72; with_reducible refine (HS.out _).mono ?_; rintro _ w' ⟨rfl, hb⟩; replace hD := hD.later (by first | exact hb | exact bt (Below.refl _ _).drew hb | exact bt (Below.refl _ _).drew.drew hb | exact bt (Below.refl _ _).drew.drew.drew hb); clear hb; obtain ⟨q0, q1, q2, q3, q4, q5, q6, q7, q8, q9, qB⟩ := id hD))
   go_ret
   exact ⟨rfl, hD.below⟩
 . have HS : Hid (∀ w, Calls Tryz.prog 72 #[.agg #[.bool d.neg, .bool d.long, .string d.dg, .int .i64 d.ex, .int .i64 d.sig, .string d.mo, .string d.da, .int .u8 d.m0, .int .u8 d.m1, .int .u8 d.m2]] w fun r w' => r = .returned (.int .i64 0) /\ Below w.heap.size w w') := Lib.hid (fun w => by
    refine (hS w).mono ?_; rintro e w' ⟨x, ⟨rfl, h⟩ | ⟨rfl, _⟩, rfl, hb⟩
    . exact absurd h hP
    . exact ⟨rfl, hb⟩)
   have hR0 : R = 8 := by rw [hR]; unfold Dt.err; rw [if_neg (by omega), if_pos ⟨c, hP⟩]
   subst hR0
   clear hS hR hP hf c
   go_enter Tryz.func45, Tryz.ntmps45
   go_upto_region 1 with (fail)
   generalize World.alloc _ _ = W0 at hD ⊢
   obtain ⟨q0, q1, q2, q3, q4, q5, q6, q7, q8, q9, qB⟩ := id hD
   go_wp2_with (first | (go_at_call 71; with_reducible refine (HC.out _).mono ?_; rintro _ w' ⟨rfl, hb⟩; replace hD := hD.later (by first | exact hb | exact bt (Below.refl _ _).drew hb | exact bt (Below.refl _ _).drew.drew hb | exact bt (Below.refl _ _).drew.drew.drew hb); clear hb; obtain ⟨q0, q1, q2, q3, q4, q5, q6, q7, q8, q9, qB⟩ := id hD) | (go_at_call 72; with_reducible refine (HS.out _).mono ?_; rintro _ w' ⟨rfl, hb⟩; replace hD := hD.later (by first | exact hb | exact bt (Below.refl _ _).drew hb | exact bt (Below.refl _ _).drew.drew hb | exact bt (Below.refl _ _).drew.drew.drew hb); clear hb; obtain ⟨q0, q1, q2, q3, q4, q5, q6, q7, q8, q9, qB⟩ := id hD))
   go_ret
   exact ⟨rfl, hD.below⟩
end Bk
end
section
open Go.RowKit Go.Lib
namespace Sk
open Un (ba bt ri rb aT)
open Bk (Rw Dt bZ hasB aZ qI)
open Ev (eF gZ hp)
theorem aBP (p d : Int) : 0 <= (aT p d).2.2 := by
 unfold aT Un.oW
 (repeat' split) <;> simp
theorem aME (k : Int) (n : Nat) (p a b sig c16 xx FY c10 be bf : Int) (zd zr zm zu zv X : Bool) (hc16 : 0 <= c16) (hsig : c16 = 0 -> 0 <= sig) (hxx : xx = if X = true then 1 else 0) (h09 : 0 <= FY) (hrt : FY = 0 -> (a = -1 \/ a = 0) /\ (b = 0 \/ b = 1)) (hbe : 0 <= be) (hbf : 0 <= bf) :
 (cond (decide (k < 1)) (.int .i64 (18)) (cond (decide (5 < k)) (.int .i64 (18)) (cond (k == 1) (cond (k == 2) (.bool false) (cond zd (cond (k == 3) (.bool false) (cond (p == 0) (cond (decide (k < 3)) (cond zr (cond (((n : Nat) : Int) == 0) (.int .i64 (17)) (.int .i64 c10)) (.int .i64 (5))) (.bool false)) (.int .i64 (5)))) (.int .i64 (5)))) (cond (decide (0 < ((n : Nat) : Int))) (.int .i64 (5)) (cond (k == 2) (cond (k == 3) (.bool false) (cond (p == 0) (cond (decide (k < 3)) (cond zr (cond (decide (0 < c16)) (.int .i64 c16) (cond (decide (0 < sig)) (.int .i64 (1)) (cond (xx == 0) (.int .i64 (1)) (cond zm (.int .i64 (0)) (.int .i64 (1)))))) (.int .i64 (5))) (.bool false)) (.int .i64 (5)))) (cond zd (cond (k == 3) (cond (decide (k < 3)) (.bool false) (cond (decide (p < 1)) (.int .i64 (18)) (cond (decide (3 < p)) (.int .i64 (18)) (cond (decide (0 < FY)) (.int .i64 (1)) (cond (a == 0) (cond (decide (0 < be)) (.int .i64 (1)) (cond zu (cond (b == 0) (cond (decide (0 < bf)) (.int .i64 (1)) (cond zv (.int .i64 (0)) (.int .i64 (1)))) (.int .i64 (0))) (.int .i64 (1)))) (cond (b == 0) (cond (decide (0 < bf)) (.int .i64 (1)) (cond zv (.int .i64 (0)) (.int .i64 (1)))) (.int .i64 (1)))))))) (cond (p == 0) (cond (decide (k < 3)) (.bool false) (cond (decide (0 < FY)) (.int .i64 (1)) (cond (k == 4) (cond (a == 0) (.int .i64 (1)) (cond (b == 0) (cond (k == 5) (.bool false) (.int .i64 (0))) (.int .i64 (1)))) (cond (k == 5) (cond (a == 0) (cond (b == 0) (.int .i64 (1)) (.int .i64 (0))) (.int .i64 (1))) (.bool false))))) (.int .i64 (5)))) (.int .i64 (5)))))))) = Value.int .i64 (MP k n p a b (pY k (decide (n = 0)) zd (p == 0) zr) c10 FY c16 sig X zm (!(decide (a ≠ 0) && decide (b ≠ 0)) && decide (FY = 0) && (decide (a ≠ 0) || (decide (be = 0) && zu)) && (decide (b ≠ 0) || (decide (bf = 0) && zv)))) := by
 have e0 : (((n : Nat) : Int) == 0) = decide (n = 0) := by rw [Bool.eq_iff_iff]; simp
 have e1 : decide (0 < ((n : Nat) : Int)) = !decide (n = 0) := by rw [Bool.eq_iff_iff]; simp; omega
 rw [e0, e1]
 have hN : ∃ N, N = decide (n = 0) := ⟨_, rfl⟩
 obtain ⟨N, hN⟩ := hN
 have hn : (n = 0) ↔ N = true := by rw [hN]; simp
 rw [<- hN]
 obtain ⟨Q, hQ⟩ : ∃ Q, Q = (p == 0) := ⟨_, rfl⟩
 have hq : (p = 0) ↔ Q = true := by rw [hQ]; simp
 rw [<- hQ]
 clear e0 e1 hN hQ
 unfold MP pY
 have hk : k < 1 \/ 5 < k \/ k = 1 \/ k = 2 \/ k = 3 \/ k = 4 \/ k = 5 := by omega
 rcases hk with h | h | rfl | rfl | rfl | rfl | rfl
 . rw [if_pos (.inl h), decide_eq_true h]; rfl
 . rw [if_pos (.inr h), decide_eq_true h, decide_eq_false (by omega)]; rfl
 . rw [if_neg (by omega)]
   cases zd <;> cases zr <;> cases N <;> cases Q <;> simp_all
 . rw [if_neg (by omega)]
   have e1 : decide (0 < c16) = !decide (c16 = 0) := by rw [Bool.eq_iff_iff]; simp; omega
   rw [e1]
   by_cases hc : c16 = 0
   . have e2 : decide (0 < sig) = !decide (sig = 0) := by have := hsig hc; rw [Bool.eq_iff_iff]; simp; omega
     rw [e2]
     by_cases hs : sig = 0 <;> cases X <;> cases zm <;> cases zd <;> cases zr <;> cases N <;> cases Q <;> simp_all
   . cases zd <;> cases zr <;> cases N <;> cases Q <;> simp_all
 . rw [if_neg (by omega)]
   have e1 : decide (0 < FY) = !decide (FY = 0) := by rw [Bool.eq_iff_iff]; simp; omega
   have e2 : decide (0 < be) = !decide (be = 0) := by rw [Bool.eq_iff_iff]; simp; omega
   have e3 : decide (0 < bf) = !decide (bf = 0) := by rw [Bool.eq_iff_iff]; simp; omega
   rw [e1, e2, e3]
   by_cases h1 : p < 1
   . cases zd <;> cases N <;> simp_all
   . by_cases h2 : 3 < p
     . cases zd <;> cases N <;> simp_all
     . have d1 := decide_eq_false h1
       have d2 := decide_eq_false h2
       have o : (p < 1 \/ 3 < p) = False := eq_false (by omega)
       rw [d1, d2]
       simp only [o, if_false]
       clear d1 d2 o h1 h2 hq
       cases zd
       . cases N <;> simp_all
       . cases N
         . simp_all
         . by_cases g1 : FY = 0
           . by_cases g2 : a = 0 <;> by_cases g3 : b = 0 <;> by_cases g4 : be = 0 <;> by_cases g5 : bf = 0 <;> cases zu <;> cases zv <;> simp_all
           . simp_all
 . rw [if_neg (by omega)]
   have e1 : decide (0 < FY) = !decide (FY = 0) := by rw [Bool.eq_iff_iff]; simp; omega
   rw [e1]
   by_cases g1 : FY = 0
   . obtain ⟨ha, hb⟩ := hrt g1
     rcases ha with rfl | rfl <;> rcases hb with rfl | rfl <;> cases zd <;> cases N <;> cases Q <;> simp_all
   . cases zd <;> cases N <;> cases Q <;> simp_all
 . rw [if_neg (by omega)]
   have e1 : decide (0 < FY) = !decide (FY = 0) := by rw [Bool.eq_iff_iff]; simp; omega
   rw [e1]
   by_cases g1 : FY = 0
   . obtain ⟨ha, hb⟩ := hrt g1
     rcases ha with rfl | rfl <;> rcases hb with rfl | rfl <;> cases zd <;> cases N <;> cases Q <;> simp_all
   . cases zd <;> cases N <;> cases Q <;> simp_all
theorem LQ (k : Int) (bs : Option Addr) (n cp : Nat) (f : Nat -> R4) (d : Dt) (p a lo b hi : Int) (zd zr M : Bool) (w0 : World) (hst : eF gZ.g.n gZ.l w0 hp) (h : Y2 k bs n f d p a lo b hi w0) (hk0 : 0 <= k)
 (hd : LD 37 (bZ d) (bZ z0) zd) (hr : LD 42 (r4 a lo b hi) (r4 0 0 0 0) zr) (hm : LD 26 (.agg #[.int .u8 d.m0, .int .u8 d.m1, .int .u8 d.m2]) (.agg #[.int .u8 0, .int .u8 0, .int .u8 0]) M) :
 Same w0 21 #[fam k (.slice bs n cp) d p a lo b hi] (.int .i64 (MP k n p a b (pY k (decide (n = 0)) zd (p == 0) zr) (kY f n) (cZ a lo b hi) d.err d.sig (xX d) M (ED p a lo b hi))) := by
 have hpw : IntKind.i64.wrap p = p := by rw [IntKind.wrap_i64]; have := h.p0; have := h.p1; omega
 have hep : 0 <= d.err := by
  by_cases c : d.err = 0
  . omega
  . have := aB9 c; omega
 have hrv := PZ a lo b hi
 have hrt : cZ a lo b hi = 0 -> (a = -1 \/ a = 0) /\ (b = 0 \/ b = 1) := fun e => by
  have g := uJ e
  have := g.low; have := g.high
  omega
 refine fun W hb0 => (aLD k bs n cp d p a lo b hi (kY f n) d.err (if xX d then 1 else 0) (cZ a lo b hi) 0 (aT p lo).1 0 (aT p lo).2.1 (aT p lo).2.2 0 (aT p hi).1 0 (aT p hi).2.1 (aT p hi).2.2 zd zr M (decide ((0 : Int) = a /\ (aT p lo).1 = lo)) (decide ((0 : Int) = b /\ (aT p hi).2.1 = hi)) hst hk0 hpw hd hr hm rfl rfl
  (fun W hb => LM f bs n cp W h.bd (h.run.later hb)) (fun W _ => Bk.QD d W h.dg h.s0 h.s1 h.m0 h.m1 h.m2) (fun W _ => aLC d W h.mo h.dg h.da) (fun W _ => xC a lo b hi W)
  (fun W _ => by rw [hpw]; exact Un.uN lo p W h.h0 h.h1) (fun W _ => by rw [hpw]; exact Un.uN hi p W h.h2 h.h3) W hb0).mono ?_
 rintro r w' ⟨rfl, hb⟩
 refine ⟨congrArg Ending.returned ?_, hb⟩
 rw [aME (n := n) (zd := zd) (zr := zr) (p := p) (c10 := kY f n) (zm := M) (X := xX d) (hc16 := hep) (hsig := aLs) (hxx := rfl) (h09 := by omega) (hrt := hrt) (hbe := aBP p lo) (hbf := aBP p hi)]
 congr 2
 rw [aB6 (p := p) (a := a) (lo := lo) (b := b) (hi := hi) rfl (x := (aT p lo).1) (y := (aT p lo).2.1) (e := (aT p lo).2.2) (x' := (aT p hi).1) (y' := (aT p hi).2.1) (e' := (aT p hi).2.2) rfl rfl]
 by_cases ha : a = 0 <;> by_cases hbb : b = 0 <;> simp [ha, hbb, eq_comm]
end Sk
end
section
open Go.RowKit Go.Lib
namespace Sk
open Un (ba bt ri rb aT)
open Bk (Rw Dt bZ hasB aZ qI)
open Ev (eF gZ hp)
theorem VD (bs : Option Addr) (n cp : Nat) (f : Nat -> R4) (d : Dt) (p a lo b hi : Int) (w : World) (hs : AY w bs n f) (hn : 0 < n) :
 Calls Tryz.prog 58 #[fam 1 (.slice bs n cp) d p a lo b hi] w fun r w' => r = .returned (.iface 128 (r4 (f 0).a (f 0).lo (f 0).b (f 0).hi)) /\ Below w.heap.size w w' := by
 obtain ⟨g, o, rfl, hg, e0, e1, e2, e3⟩ := hs 0 hn
 have hR : Rw w.heap.size (lF 1 (.slice (some ⟨g, o, none⟩) n cp) d p a lo b hi) w _ := Rw.fresh (Below.refl _ _) _ 44
 obtain ⟨qa, ql, qb, qh, hq⟩ : ∃ qa ql qb qh, f 0 = ⟨qa, ql, qb, qh⟩ := ⟨_, _, _, _, rfl⟩
 rw [hq] at e0 e1 e2 e3 ⊢
 simp only [Nat.zero_mul, Nat.add_zero] at e0 e1 e2 e3
 dsimp only at e0 e1 e2 e3 ⊢
 have HE := Lib.hid (And.intro hg (And.intro e0 (And.intro e1 (And.intro e2 e3))))
 clear hs hg e0 e1 e2 e3
 unfold fam r4
 have hn1 : (0 : Int) < n := by omega
 go_enter Tryz.func58, Tryz.ntmps58
 go_upto_region 1 with (fail)
 have H0 : ∀ i, World.cell? (World.alloc w _) ⟨g, i, none⟩ = w.cell? ⟨g, i, none⟩ := fun i => (hR.below).cell (p := ⟨g, i, none⟩) HE.out.1
 generalize World.alloc _ _ = W0 at hR H0 ⊢
 have c0 := hR.cell 0 _ rfl
 have c1 := hR.cell 1 _ rfl
 have e0 := (H0 _).trans HE.out.2.1
 have e1 := (H0 _).trans HE.out.2.2.1
 have e2 := (H0 _).trans HE.out.2.2.2.1
 have e3 := (H0 _).trans HE.out.2.2.2.2
 clear H0
 go_wp2
 go_ret
 exact ⟨rfl, hR.below⟩
end Sk
end
section
open Go.RowKit Go.Lib
namespace Sk
open Ev (eF DT LG gZ bJ hp QY oU uZ l_b Y5 pU aY AV Y0 EM dS bH dF iI BU)
def aHV : DT := (.node 0 (qe 0) q8 (.node 0 (qi 6) qz (.node 3 (qb 7) (qb 7) (.node 0 (qi 9) qz (.node 0 (qi 8) (.v (.int .i64 9223372036854775807)) (.leaf (.aP [(rK q8 qz q8 qz), (.v (.int .i64 15))])) (.node 0 (qi 12) qz (.leaf (.aP [(rK q8 (qi 10) q8 (qi 11)), qz])) (.leaf (.aP [(rK q8 qz q8 qz), (qi 12)])))) (.leaf (.aP [(rK q8 qz q8 qz), (qi 9)]))) (.leaf (.aP [(rK q8 qz q8 qz), (.v (.int .i64 1))]))) (.leaf (.aP [(rK q8 qz q8 qz), (.v (.int .i64 1))]))) (.leaf (.aP [(rK q8 qz q8 qz), (.v (.int .i64 1))])))
theorem aDq (l : Value) : aHV.ok gZ l [(42, rK q8 (qi 4) q8 (qi 5), rK (qe 0) (qi 1) (qe 2) (qi 3), (qb 7))] [(85, [(qi 1), .v (.int .u8 1)], .aP [rK q8 (qi 4) q8 (qi 5), (qi 6)]), (140, [(qi 1)], .aP [(qi 8), (qi 9)]), (141, [aY 1 .i64 [(qi 8), .v (.int .i64 1)]], .aP [(qi 10), (qi 11), (qi 12)])] hp 60 LG 270 [rK (qe 0) (qi 1) (qe 2) (qi 3), .v (.int .u8 1)] [] = true := by kernel_rfl
theorem aLd (a lo b hi x y e i ie l2 h2 e2 : Int) (z : Bool) {w0 : World} (hst : SS w0) (hz : LD 42 (r4 0 x 0 y) (r4 a lo b hi) z) (H0 : Same w0 85 #[(.int .i64 lo), (.int .u8 1)] (.tuple #[(r4 0 x 0 y), (.int .i64 e)])) (H1 : Same w0 140 #[(.int .i64 lo)] (.tuple #[(.int .i64 i), (.int .i64 ie)])) (H2 : Same w0 141 #[(.int .i64 (IntKind.i64.wrap (i + 1)))] (.tuple #[(.int .i64 l2), (.int .i64 h2), (.int .i64 e2)])) : Same w0 270 #[(r4 a lo b hi), (.int .u8 1)] (cond (a == 0) (cond (e == 0) (cond z (cond (ie == 0) (cond (i == 9223372036854775807) (.tuple #[(r4 0 0 0 0), (.int .i64 15)]) (cond (e2 == 0) (.tuple #[(r4 0 l2 0 h2), (.int .i64 0)]) (.tuple #[(r4 0 0 0 0), (.int .i64 e2)]))) (.tuple #[(r4 0 0 0 0), (.int .i64 ie)])) (.tuple #[(r4 0 0 0 0), (.int .i64 1)])) (.tuple #[(r4 0 0 0 0), (.int .i64 1)])) (.tuple #[(r4 0 0 0 0), (.int .i64 1)])) :=
 bH (aDq (.agg #[.int .i8 a, .int .i64 lo, .int .i8 b, .int .i64 hi, .int .i64 x, .int .i64 y, .int .i64 e, .bool z, .int .i64 i, .int .i64 ie, .int .i64 l2, .int .i64 h2, .int .i64 e2])) (bJ w0) hst (.cons hz (fun _ _ _ => ⟨by kernel_rfl, by kernel_rfl⟩) .nil) (.cons H0 (.cons H1 (.cons H2 .nil))) (dF (by kernel_rfl)) (by kernel_rfl)
def aHU : DT := (.node 0 (qe 0) q8 (.node 0 (qi 6) qz (.node 3 (qb 7) (qb 7) (.node 0 (qi 10) qz (.node 0 (aY 2 .i64 [(aY 1 .i64 [(aY 3 .i64 [(.v (.int .i64 12)), (qi 8)]), (qi 9)]), (.v (.int .i64 1))]) (.v (.int .i64 9223372036854775807)) (.leaf (.aP [(rK q8 qz q8 qz), (.v (.int .i64 15))])) (.node 0 (qi 13) qz (.leaf (.aP [(rK q8 (qi 11) q8 (qi 12)), qz])) (.leaf (.aP [(rK q8 qz q8 qz), (qi 13)])))) (.leaf (.aP [(rK q8 qz q8 qz), (qi 10)]))) (.leaf (.aP [(rK q8 qz q8 qz), (.v (.int .i64 1))]))) (.leaf (.aP [(rK q8 qz q8 qz), (.v (.int .i64 1))]))) (.leaf (.aP [(rK q8 qz q8 qz), (.v (.int .i64 1))])))
theorem aDp (l : Value) : aHU.ok gZ l [(42, rK q8 (qi 4) q8 (qi 5), rK (qe 0) (qi 1) (qe 2) (qi 3), (qb 7))] [(85, [(qi 1), .v (.int .u8 2)], .aP [rK q8 (qi 4) q8 (qi 5), (qi 6)]), (143, [(qi 1)], .aP [(qi 8), (qi 9), (qi 10)]), (144, [aY 1 .i64 [aY 2 .i64 [aY 1 .i64 [aY 3 .i64 [.v (.int .i64 12), (qi 8)], (qi 9)], .v (.int .i64 1)], .v (.int .i64 1)]], .aP [(qi 11), (qi 12), (qi 13)])] hp 60 LG 270 [rK (qe 0) (qi 1) (qe 2) (qi 3), .v (.int .u8 2)] [] = true := by kernel_rfl
theorem aLc (a lo b hi x y e i m ie l2 h2 e2 : Int) (z : Bool) {w0 : World} (hst : SS w0) (hz : LD 42 (r4 0 x 0 y) (r4 a lo b hi) z) (H0 : Same w0 85 #[(.int .i64 lo), (.int .u8 2)] (.tuple #[(r4 0 x 0 y), (.int .i64 e)])) (H1 : Same w0 143 #[(.int .i64 lo)] (.tuple #[(.int .i64 i), (.int .i64 m), (.int .i64 ie)])) (H2 : Same w0 144 #[(.int .i64 (IntKind.i64.wrap ((IntKind.i64.wrap ((IntKind.i64.wrap ((IntKind.i64.wrap (12 * i)) + m)) - 1)) + 1)))] (.tuple #[(.int .i64 l2), (.int .i64 h2), (.int .i64 e2)])) : Same w0 270 #[(r4 a lo b hi), (.int .u8 2)] (cond (a == 0) (cond (e == 0) (cond z (cond (ie == 0) (cond ((IntKind.i64.wrap ((IntKind.i64.wrap ((IntKind.i64.wrap (12 * i)) + m)) - 1)) == 9223372036854775807) (.tuple #[(r4 0 0 0 0), (.int .i64 15)]) (cond (e2 == 0) (.tuple #[(r4 0 l2 0 h2), (.int .i64 0)]) (.tuple #[(r4 0 0 0 0), (.int .i64 e2)]))) (.tuple #[(r4 0 0 0 0), (.int .i64 ie)])) (.tuple #[(r4 0 0 0 0), (.int .i64 1)])) (.tuple #[(r4 0 0 0 0), (.int .i64 1)])) (.tuple #[(r4 0 0 0 0), (.int .i64 1)])) :=
 bH (aDp (.agg #[.int .i8 a, .int .i64 lo, .int .i8 b, .int .i64 hi, .int .i64 x, .int .i64 y, .int .i64 e, .bool z, .int .i64 i, .int .i64 m, .int .i64 ie, .int .i64 l2, .int .i64 h2, .int .i64 e2])) (bJ w0) hst (.cons hz (fun _ _ _ => ⟨by kernel_rfl, by kernel_rfl⟩) .nil) (.cons H0 (.cons H1 (.cons H2 .nil))) (dF (by kernel_rfl)) (by kernel_rfl)
def aHT : DT := (.node 0 (qe 0) q8 (.node 0 (qi 6) qz (.node 3 (qb 7) (qb 7) (.node 0 (qi 1) (.v (.int .i64 9223372036854775807)) (.leaf (.aP [(rK q8 qz q8 qz), (.v (.int .i64 15))])) (.leaf (.aP [(.agg [q8, (aY 1 .i64 [(qi 1), (.v (.int .i64 1))]), q8, (aY 1 .i64 [(qi 1), (.v (.int .i64 1))])]), qz]))) (.leaf (.aP [(rK q8 qz q8 qz), (.v (.int .i64 1))]))) (.leaf (.aP [(rK q8 qz q8 qz), (.v (.int .i64 1))]))) (.leaf (.aP [(rK q8 qz q8 qz), (.v (.int .i64 1))])))
theorem aDo (l : Value) : aHT.ok gZ l [(42, rK q8 (qi 4) q8 (qi 5), rK (qe 0) (qi 1) (qe 2) (qi 3), (qb 7))] [(85, [(qi 1), .v (.int .u8 3)], .aP [rK q8 (qi 4) q8 (qi 5), (qi 6)])] hp 60 LG 270 [rK (qe 0) (qi 1) (qe 2) (qi 3), .v (.int .u8 3)] [] = true := by kernel_rfl
theorem aLb (a lo b hi x y e : Int) (z : Bool) {w0 : World} (hst : SS w0) (hz : LD 42 (r4 0 x 0 y) (r4 a lo b hi) z) (H0 : Same w0 85 #[(.int .i64 lo), (.int .u8 3)] (.tuple #[(r4 0 x 0 y), (.int .i64 e)])) : Same w0 270 #[(r4 a lo b hi), (.int .u8 3)] (cond (a == 0) (cond (e == 0) (cond z (cond (lo == 9223372036854775807) (.tuple #[(r4 0 0 0 0), (.int .i64 15)]) (.tuple #[(r4 0 (IntKind.i64.wrap (lo + 1)) 0 (IntKind.i64.wrap (lo + 1))), (.int .i64 0)])) (.tuple #[(r4 0 0 0 0), (.int .i64 1)])) (.tuple #[(r4 0 0 0 0), (.int .i64 1)])) (.tuple #[(r4 0 0 0 0), (.int .i64 1)])) :=
 bH (aDo (.agg #[.int .i8 a, .int .i64 lo, .int .i8 b, .int .i64 hi, .int .i64 x, .int .i64 y, .int .i64 e, .bool z])) (bJ w0) hst (.cons hz (fun _ _ _ => ⟨by kernel_rfl, by kernel_rfl⟩) .nil) (.cons H0 .nil) (dF (by kernel_rfl)) (by kernel_rfl)
def aHS : DT := (.node 0 (qe 0) q8 (.node 0 (qi 6) qz (.node 3 (qb 7) (qb 7) (.node 0 (qi 9) qz (.node 0 (qi 8) (.v (.int .i64 (-9223372036854775808))) (.leaf (.aP [(rK q8 qz q8 qz), (.v (.int .i64 15))])) (.node 0 (qi 12) qz (.leaf (.aP [(rK q8 (qi 10) q8 (qi 11)), qz])) (.leaf (.aP [(rK q8 qz q8 qz), (qi 12)])))) (.leaf (.aP [(rK q8 qz q8 qz), (qi 9)]))) (.leaf (.aP [(rK q8 qz q8 qz), (.v (.int .i64 1))]))) (.leaf (.aP [(rK q8 qz q8 qz), (.v (.int .i64 1))]))) (.leaf (.aP [(rK q8 qz q8 qz), (.v (.int .i64 1))])))
theorem aDn (l : Value) : aHS.ok gZ l [(42, rK q8 (qi 4) q8 (qi 5), rK (qe 0) (qi 1) (qe 2) (qi 3), (qb 7))] [(85, [(qi 1), .v (.int .u8 1)], .aP [rK q8 (qi 4) q8 (qi 5), (qi 6)]), (140, [(qi 1)], .aP [(qi 8), (qi 9)]), (141, [aY 2 .i64 [(qi 8), .v (.int .i64 1)]], .aP [(qi 10), (qi 11), (qi 12)])] hp 60 LG 271 [rK (qe 0) (qi 1) (qe 2) (qi 3), .v (.int .u8 1)] [] = true := by kernel_rfl
theorem aLa (a lo b hi x y e i ie l2 h2 e2 : Int) (z : Bool) {w0 : World} (hst : SS w0) (hz : LD 42 (r4 0 x 0 y) (r4 a lo b hi) z) (H0 : Same w0 85 #[(.int .i64 lo), (.int .u8 1)] (.tuple #[(r4 0 x 0 y), (.int .i64 e)])) (H1 : Same w0 140 #[(.int .i64 lo)] (.tuple #[(.int .i64 i), (.int .i64 ie)])) (H2 : Same w0 141 #[(.int .i64 (IntKind.i64.wrap (i - 1)))] (.tuple #[(.int .i64 l2), (.int .i64 h2), (.int .i64 e2)])) : Same w0 271 #[(r4 a lo b hi), (.int .u8 1)] (cond (a == 0) (cond (e == 0) (cond z (cond (ie == 0) (cond (i == (-9223372036854775808)) (.tuple #[(r4 0 0 0 0), (.int .i64 15)]) (cond (e2 == 0) (.tuple #[(r4 0 l2 0 h2), (.int .i64 0)]) (.tuple #[(r4 0 0 0 0), (.int .i64 e2)]))) (.tuple #[(r4 0 0 0 0), (.int .i64 ie)])) (.tuple #[(r4 0 0 0 0), (.int .i64 1)])) (.tuple #[(r4 0 0 0 0), (.int .i64 1)])) (.tuple #[(r4 0 0 0 0), (.int .i64 1)])) :=
 bH (aDn (.agg #[.int .i8 a, .int .i64 lo, .int .i8 b, .int .i64 hi, .int .i64 x, .int .i64 y, .int .i64 e, .bool z, .int .i64 i, .int .i64 ie, .int .i64 l2, .int .i64 h2, .int .i64 e2])) (bJ w0) hst (.cons hz (fun _ _ _ => ⟨by kernel_rfl, by kernel_rfl⟩) .nil) (.cons H0 (.cons H1 (.cons H2 .nil))) (dF (by kernel_rfl)) (by kernel_rfl)
def aHR : DT := (.node 0 (qe 0) q8 (.node 0 (qi 6) qz (.node 3 (qb 7) (qb 7) (.node 0 (qi 10) qz (.node 0 (aY 2 .i64 [(aY 1 .i64 [(aY 3 .i64 [(.v (.int .i64 12)), (qi 8)]), (qi 9)]), (.v (.int .i64 1))]) (.v (.int .i64 (-9223372036854775808))) (.leaf (.aP [(rK q8 qz q8 qz), (.v (.int .i64 15))])) (.node 0 (qi 13) qz (.leaf (.aP [(rK q8 (qi 11) q8 (qi 12)), qz])) (.leaf (.aP [(rK q8 qz q8 qz), (qi 13)])))) (.leaf (.aP [(rK q8 qz q8 qz), (qi 10)]))) (.leaf (.aP [(rK q8 qz q8 qz), (.v (.int .i64 1))]))) (.leaf (.aP [(rK q8 qz q8 qz), (.v (.int .i64 1))]))) (.leaf (.aP [(rK q8 qz q8 qz), (.v (.int .i64 1))])))
theorem aDm (l : Value) : aHR.ok gZ l [(42, rK q8 (qi 4) q8 (qi 5), rK (qe 0) (qi 1) (qe 2) (qi 3), (qb 7))] [(85, [(qi 1), .v (.int .u8 2)], .aP [rK q8 (qi 4) q8 (qi 5), (qi 6)]), (143, [(qi 1)], .aP [(qi 8), (qi 9), (qi 10)]), (144, [aY 2 .i64 [aY 2 .i64 [aY 1 .i64 [aY 3 .i64 [.v (.int .i64 12), (qi 8)], (qi 9)], .v (.int .i64 1)], .v (.int .i64 1)]], .aP [(qi 11), (qi 12), (qi 13)])] hp 60 LG 271 [rK (qe 0) (qi 1) (qe 2) (qi 3), .v (.int .u8 2)] [] = true := by kernel_rfl
theorem aK9 (a lo b hi x y e i m ie l2 h2 e2 : Int) (z : Bool) {w0 : World} (hst : SS w0) (hz : LD 42 (r4 0 x 0 y) (r4 a lo b hi) z) (H0 : Same w0 85 #[(.int .i64 lo), (.int .u8 2)] (.tuple #[(r4 0 x 0 y), (.int .i64 e)])) (H1 : Same w0 143 #[(.int .i64 lo)] (.tuple #[(.int .i64 i), (.int .i64 m), (.int .i64 ie)])) (H2 : Same w0 144 #[(.int .i64 (IntKind.i64.wrap ((IntKind.i64.wrap ((IntKind.i64.wrap ((IntKind.i64.wrap (12 * i)) + m)) - 1)) - 1)))] (.tuple #[(.int .i64 l2), (.int .i64 h2), (.int .i64 e2)])) : Same w0 271 #[(r4 a lo b hi), (.int .u8 2)] (cond (a == 0) (cond (e == 0) (cond z (cond (ie == 0) (cond ((IntKind.i64.wrap ((IntKind.i64.wrap ((IntKind.i64.wrap (12 * i)) + m)) - 1)) == (-9223372036854775808)) (.tuple #[(r4 0 0 0 0), (.int .i64 15)]) (cond (e2 == 0) (.tuple #[(r4 0 l2 0 h2), (.int .i64 0)]) (.tuple #[(r4 0 0 0 0), (.int .i64 e2)]))) (.tuple #[(r4 0 0 0 0), (.int .i64 ie)])) (.tuple #[(r4 0 0 0 0), (.int .i64 1)])) (.tuple #[(r4 0 0 0 0), (.int .i64 1)])) (.tuple #[(r4 0 0 0 0), (.int .i64 1)])) :=
 bH (aDm (.agg #[.int .i8 a, .int .i64 lo, .int .i8 b, .int .i64 hi, .int .i64 x, .int .i64 y, .int .i64 e, .bool z, .int .i64 i, .int .i64 m, .int .i64 ie, .int .i64 l2, .int .i64 h2, .int .i64 e2])) (bJ w0) hst (.cons hz (fun _ _ _ => ⟨by kernel_rfl, by kernel_rfl⟩) .nil) (.cons H0 (.cons H1 (.cons H2 .nil))) (dF (by kernel_rfl)) (by kernel_rfl)
def aHQ : DT := (.node 0 (qe 0) q8 (.node 0 (qi 6) qz (.node 3 (qb 7) (qb 7) (.node 0 (qi 1) (.v (.int .i64 (-9223372036854775808))) (.leaf (.aP [(rK q8 qz q8 qz), (.v (.int .i64 15))])) (.leaf (.aP [(.agg [q8, (aY 2 .i64 [(qi 1), (.v (.int .i64 1))]), q8, (aY 2 .i64 [(qi 1), (.v (.int .i64 1))])]), qz]))) (.leaf (.aP [(rK q8 qz q8 qz), (.v (.int .i64 1))]))) (.leaf (.aP [(rK q8 qz q8 qz), (.v (.int .i64 1))]))) (.leaf (.aP [(rK q8 qz q8 qz), (.v (.int .i64 1))])))
theorem aDl (l : Value) : aHQ.ok gZ l [(42, rK q8 (qi 4) q8 (qi 5), rK (qe 0) (qi 1) (qe 2) (qi 3), (qb 7))] [(85, [(qi 1), .v (.int .u8 3)], .aP [rK q8 (qi 4) q8 (qi 5), (qi 6)])] hp 60 LG 271 [rK (qe 0) (qi 1) (qe 2) (qi 3), .v (.int .u8 3)] [] = true := by kernel_rfl
theorem aK8 (a lo b hi x y e : Int) (z : Bool) {w0 : World} (hst : SS w0) (hz : LD 42 (r4 0 x 0 y) (r4 a lo b hi) z) (H0 : Same w0 85 #[(.int .i64 lo), (.int .u8 3)] (.tuple #[(r4 0 x 0 y), (.int .i64 e)])) : Same w0 271 #[(r4 a lo b hi), (.int .u8 3)] (cond (a == 0) (cond (e == 0) (cond z (cond (lo == (-9223372036854775808)) (.tuple #[(r4 0 0 0 0), (.int .i64 15)]) (.tuple #[(r4 0 (IntKind.i64.wrap (lo - 1)) 0 (IntKind.i64.wrap (lo - 1))), (.int .i64 0)])) (.tuple #[(r4 0 0 0 0), (.int .i64 1)])) (.tuple #[(r4 0 0 0 0), (.int .i64 1)])) (.tuple #[(r4 0 0 0 0), (.int .i64 1)])) :=
 bH (aDl (.agg #[.int .i8 a, .int .i64 lo, .int .i8 b, .int .i64 hi, .int .i64 x, .int .i64 y, .int .i64 e, .bool z])) (bJ w0) hst (.cons hz (fun _ _ _ => ⟨by kernel_rfl, by kernel_rfl⟩) .nil) (.cons H0 .nil) (dF (by kernel_rfl)) (by kernel_rfl)
end Sk
end
section
open Go.RowKit Go.Lib
namespace Sk
open Un (ba bt ri rb aT)
open Bk (Rw Dt bZ hasB aZ qI)
open Ev (eF gZ hp)
def yM (k : Int) (n : Nat) (e : Int) : Int := if e ≠ 0 then e else if k = 1 /\ 1 < n then 14 else if 3 < k then 1 else 0
theorem aKV (k c : Int) (n : Nat) : (cond (c == 0) (cond (k == 1) (cond (decide (1 < ((n : Nat) : Int))) (.int .i64 (14)) (cond (decide (3 < k)) (.bool false) (.int .i64 (0)))) (cond (decide (3 < k)) (.int .i64 (1)) (.int .i64 (0)))) (.int .i64 c)) = Value.int .i64 (yM k n c) := by
 have e0 : decide (1 < ((n : Nat) : Int)) = decide (1 < n) := by rw [Bool.eq_iff_iff]; simp; omega
 rw [e0]
 unfold yM
 by_cases h1 : c = 0 <;> by_cases h2 : k = 1 <;> by_cases h3 : 1 < n <;> by_cases h4 : 3 < k <;> first | (exfalso; omega) | simp [h1, h2, h3, h4, Bool.cond_eq_ite]
theorem aPY (k c : Int) (n : Nat) (hc : 0 <= c) : (cond (decide (0 < c)) (.int .i64 c) (cond (k == 1) (cond (decide (1 < ((n : Nat) : Int))) (.int .i64 (14)) (cond (decide (3 < k)) (.bool false) (.int .i64 (0)))) (cond (decide (3 < k)) (.int .i64 (1)) (.int .i64 (0))))) = Value.int .i64 (yM k n c) := by
 rw [<- aKV]
 by_cases h1 : c = 0
 . subst h1; simp
 . have : 0 < c := by omega
   simp [h1, this, Bool.cond_eq_ite]
theorem aCW {w0 : World} {k : Int} {bs : Option Addr} {n cp : Nat} {d : Dt} {p a lo b hi c : Int} (hst : eF gZ.g.n gZ.l w0 hp) (h : Same w0 22 #[fam k (.slice bs n cp) d p a lo b hi] (.int .i64 c)) :
 Same w0 8 #[fam k (.slice bs n cp) d p a lo b hi] (.int .i64 (yM k n c)) := by
 have h2 := aE1 k bs n cp d p a lo b hi c hst h
 rw [aKV] at h2
 exact h2
theorem aDd {w0 : World} {k : Int} {bs : Option Addr} {n cp : Nat} {d : Dt} {p a lo b hi c : Int} (hst : eF gZ.g.n gZ.l w0 hp) (hc : 0 <= c) (h : Same w0 21 #[fam k (.slice bs n cp) d p a lo b hi] (.int .i64 c)) :
 Same w0 7 #[fam k (.slice bs n cp) d p a lo b hi] (.int .i64 (yM k n c)) := by
 have h2 := aE9 k bs n cp d p a lo b hi c hst h
 rw [aPY k c n hc] at h2
 exact h2
def IsF (v : Value) : Prop := ∃ r : RB, v = .tuple #[.agg #[.int .i8 r.a, .int .i64 r.lo, .int .i8 r.b, .int .i64 r.hi], .bool r.is, .int .i64 0]
theorem IsF.cond {c : Bool} {v u : Value} (h : IsF v) (g : IsF u) : IsF (cond c v u) := by cases c; exact g; exact h
theorem IsF.mk {a lo b hi : Int} {is : Bool} : IsF (.tuple #[.agg #[.int .i8 a, .int .i64 lo, .int .i8 b, .int .i64 hi], .bool is, .int .i64 0]) := ⟨⟨a, lo, b, hi, is⟩, rfl⟩
theorem exF {w0 : World} {f : FuncId} {args : Array Value} {v : Value} (hv : Same w0 f args v) (h : IsF v) : ∃ r : RB, Same w0 f args (.tuple #[.agg #[.int .i8 r.a, .int .i64 r.lo, .int .i8 r.b, .int .i64 r.hi], .bool r.is, .int .i64 0]) := by
 obtain ⟨r, rfl⟩ := h; exact ⟨r, hv⟩
def IsP (v : Value) : Prop := ∃ r : RB, v = r.v
theorem IsP.cond {c : Bool} {v u : Value} (h : IsP v) (g : IsP u) : IsP (cond c v u) := by cases c; exact g; exact h
theorem IsP.mk {a lo b hi : Int} {is : Bool} : IsP (.tuple #[.agg #[.int .i8 a, .int .i64 lo, .int .i8 b, .int .i64 hi], .bool is]) := ⟨⟨a, lo, b, hi, is⟩, rfl⟩
theorem exP {w0 : World} {f : FuncId} {args : Array Value} {v : Value} (hv : Same w0 f args v) (h : IsP v) : ∃ r : RB, Same w0 f args r.v := by
 obtain ⟨r, rfl⟩ := h; exact ⟨r, hv⟩
theorem aJl (p d : Int) (h0 : -9223372036854775808 <= d) (h1 : d < 9223372036854775808) : -9223372036854775808 <= (aT p d).1 /\ (aT p d).1 < 9223372036854775808 := by
 by_cases hp : p < 1 \/ 3 < p
 . unfold aT; rw [if_pos hp]; dsimp only; omega
 by_cases h3 : p = 3
 . unfold aT Un.oW; rw [if_neg hp, if_pos h3]; dsimp only; omega
 by_cases hy : -10000000000000000 <= Cal.dU d /\ Cal.dU d <= 10000000000000000
 . unfold aT Un.oW
   rw [if_neg hp, if_neg h3, if_pos hy]
   have b1 := @Un.oH (Cal.dU d) (by omega) (by omega)
   obtain ⟨s1, s2⟩ := Cal.iE d
   have ss := Cal.st_succ (Cal.dU d)
   split
   . dsimp only; omega
   . obtain ⟨m0, m1, m2, m3⟩ := @Cal.oN (Cal.dU d) (d - Cal.st (Cal.dU d)) (by omega) (by omega)
     have c0 := @Cal.sQ (Cal.dU d) (Cal.LW (Cal.dU d) (d - Cal.st (Cal.dU d))) (by omega) (by omega)
     dsimp only; omega
 . unfold aT Un.oW; rw [if_neg hp, if_neg h3, if_neg hy]; dsimp only; omega
section
variable {w0 : World} {bs : Option Addr} {n cp : Nat} {f : Nat -> R4} {d : Dt} {p a lo b hi : Int}
theorem kS {k c : Int} (q day : Int) (hst : eF gZ.g.n gZ.l w0 hp) (hc : 0 < c) (h : Same w0 8 #[fam k (.slice bs n cp) d p a lo b hi] (.int .i64 c)) :
 Same w0 11 #[fam k (.slice bs n cp) d p a lo b hi, .int .i64 q, .int .i64 day] (.tuple #[.agg #[.int .i8 0, .int .i64 0, .int .i8 0, .int .i64 0], .bool false, .int .i64 c]) := by
 have h2 := aJV k bs n cp d p a lo b hi c q day hst hc h
 have e : (c == 0) = false := by simp; omega
 rw [e] at h2
 simp only [cond_false, Bool.cond_self] at h2
 exact h2
theorem SK (q day : Int) (hst : eF gZ.g.n gZ.l w0 hp) (h : Y2 1 bs n f d p a lo b hi w0) (hn : 0 < n) (hc : Same w0 8 #[fam 1 (.slice bs n cp) d p a lo b hi] (.int .i64 0)) :
 ∃ r : RB, Same w0 11 #[fam 1 (.slice bs n cp) d p a lo b hi, .int .i64 q, .int .i64 day] (.tuple #[.agg #[.int .i8 r.a, .int .i64 r.lo, .int .i8 r.b, .int .i64 r.hi], .bool r.is, .int .i64 0]) := by
 have hS := fun W (hb : Below w0.heap.size w0 W) => VD bs n cp f d p a lo b hi W (h.run.later hb) hn
 obtain ⟨ua, ul, ub, uh, hf⟩ : ∃ ua ul ub uh, f 0 = ⟨ua, ul, ub, uh⟩ := ⟨_, _, _, _, rfl⟩
 rw [hf] at hS
 dsimp only at hS
 have hH := aPi ua ul ub uh day (bG ua ul 0 day) (bG 0 day ub uh) (decide (cZ 0 day 0 day = 0) && decide (cZ ua ul ub uh = 0)) hst (fun W _ => NP 0 day 0 day ua ul ub uh W) (fun W _ => gY ua ul 0 day W) (fun W _ => gY 0 day ub uh W)
 obtain ⟨z, hz⟩ : ∃ z : Bool, (cond (decide (cZ 0 day 0 day = 0) && decide (cZ ua ul ub uh = 0)) (cond (decide (0 < bG ua ul 0 day)) (.bool false) (cond (decide (0 < bG 0 day ub uh)) (.bool false) (.bool true))) (.bool false)) = Value.bool z := by
  generalize (decide (cZ 0 day 0 day = 0) && decide (cZ ua ul ub uh = 0)) = A
  generalize decide (0 < bG ua ul 0 day) = B
  generalize decide (0 < bG 0 day ub uh) = C
  cases A <;> cases B <;> cases C <;> exact ⟨_, rfl⟩
 rw [hz] at hH
 refine exF (aJT 1 bs n cp d p a lo b hi q day ua ul ub uh z hst hc hS hH) ?_
 repeat (first | exact IsF.mk | apply IsF.cond)
theorem SL (q day : Int) (h0 : -9223372036854775808 <= day) (h1 : day < 9223372036854775808) (h : TR d w0) (hc : Same w0 8 #[fam 2 (.slice bs n cp) d p a lo b hi] (.int .i64 0)) :
 ∃ r : RB, Same w0 11 #[fam 2 (.slice bs n cp) d p a lo b hi, .int .i64 q, .int .i64 day] (.tuple #[.agg #[.int .i8 r.a, .int .i64 r.lo, .int .i8 r.b, .int .i64 r.hi], .bool r.is, .int .i64 0]) := by
 obtain ⟨r0, -, H0⟩ := KA h
 obtain ⟨r1, -, H1⟩ := wI h
 obtain ⟨r2, -, H2⟩ := aKe day h0 h1 h
 obtain ⟨r3, -, H3⟩ := aDY day h0 h1 h
 obtain ⟨r4, -, H4⟩ := aCH day h0 h1 h
 refine exF (aJU 2 bs n cp d p a lo b hi q day _ _ _ _ _ _ _ _ _ _ _ _ _ _ _ _ _ _ _ _ _ _ _ _ _ h.st hc H0 H1 H2 H3 H4) ?_
 repeat (first | exact IsF.mk | apply IsF.cond)
theorem zN (ua ul ub uh e : Int) (hst : eF gZ.g.n gZ.l w0 hp) : ∃ r : RB, Same w0 269 #[.agg #[.int .i8 a, .int .i64 lo, .int .i8 b, .int .i64 hi, .int .u8 p], .agg #[.int .i8 ua, .int .i64 ul, .int .i8 ub, .int .i64 uh], .int .i64 e] r.v := by
 refine exP (aSt a lo b hi p ua ul ub uh e (bG ua ul a lo) (bG ub uh b hi) hst (fun W _ => gY ua ul a lo W) (fun W _ => gY ub uh b hi W)) ?_
 repeat (first | exact IsP.mk | apply IsP.cond)
theorem exU {f : FuncId} {args : Array Value} {v : Value} (hv : Same w0 f args v) (h : ∃ l u e : Int, v = .tuple #[r4 0 l 0 u, .int .i64 e]) : ∃ l u e : Int, Same w0 f args (.tuple #[r4 0 l 0 u, .int .i64 e]) := by
 obtain ⟨l, u, e, rfl⟩ := h; exact ⟨l, u, e, hv⟩
theorem isU {c : Bool} {v u : Value} (h : ∃ l u e : Int, v = .tuple #[r4 0 l 0 u, .int .i64 e]) (g : ∃ l u' e : Int, u = .tuple #[r4 0 l 0 u', .int .i64 e]) : ∃ l u' e : Int, cond c v u = .tuple #[r4 0 l 0 u', .int .i64 e] := by cases c; exact g; exact h
theorem YN {l2 u2 p : Int} (hp : 1 <= p /\ p <= 3) (hk : qI w0) (hst : eF gZ.g.n gZ.l w0 Ev.hp) (h0 : -9223372036854775808 <= l2) (h1 : l2 < 9223372036854775808) :
 (∃ l u e : Int, Same w0 270 #[r4 0 l2 0 u2, .int .u8 p] (.tuple #[r4 0 l 0 u, .int .i64 e])) /\ (∃ l u e : Int, Same w0 271 #[r4 0 l2 0 u2, .int .u8 p] (.tuple #[r4 0 l 0 u, .int .i64 e])) := by
 have HH := fun W (hb : Below w0.heap.size w0 W) => Un.kK l2 p W (hk.below hb).cal h0 h1 (by omega) (by omega)
 unfold Un.rv at HH
 have hz := VE 0 (aT p l2).1 0 (aT p l2).2.1 0 l2 0 u2 _ rfl
 have hpp : p = 1 \/ p = 2 \/ p = 3 := by omega
 rcases hpp with rfl | rfl | rfl
 . have HO := fun W (hb : Below w0.heap.size w0 W) => Un.xK l2 W (hk.below hb).cal.steps h0 h1
   exact ⟨exU (aLd _ _ _ _ _ _ _ _ _ _ _ _ _ hst hz HH HO (fun W hb => Un.lK _ W (hk.below hb).cal)) (by repeat (first | exact ⟨_, _, _, rfl⟩ | apply isU)),
    exU (aLa _ _ _ _ _ _ _ _ _ _ _ _ _ hst hz HH HO (fun W hb => Un.lK _ W (hk.below hb).cal)) (by repeat (first | exact ⟨_, _, _, rfl⟩ | apply isU))⟩
 . have HO := fun W (hb : Below w0.heap.size w0 W) => Un.rU l2 W (hk.below hb).cal h0 h1
   exact ⟨exU (aLc _ _ _ _ _ _ _ _ _ _ _ _ _ _ hst hz HH HO (fun W hb => Un.kN _ W (hk.below hb).cal (lJ _).1 (lJ _).2)) (by repeat (first | exact ⟨_, _, _, rfl⟩ | apply isU)),
    exU (aK9 _ _ _ _ _ _ _ _ _ _ _ _ _ _ hst hz HH HO (fun W hb => Un.kN _ W (hk.below hb).cal (lJ _).1 (lJ _).2)) (by repeat (first | exact ⟨_, _, _, rfl⟩ | apply isU))⟩
 . exact ⟨exU (aLb _ _ _ _ _ _ _ _ hst hz HH) (by repeat (first | exact ⟨_, _, _, rfl⟩ | apply isU)), exU (aK8 _ _ _ _ _ _ _ _ hst hz HH) (by repeat (first | exact ⟨_, _, _, rfl⟩ | apply isU))⟩
theorem MO (q day : Int) (hpr : 1 <= p /\ p <= 3) (h0 : -9223372036854775808 <= day) (h1 : day < 9223372036854775808) (hk : qI w0) (hst : eF gZ.g.n gZ.l w0 hp) (h : Y2 3 bs n f d p a lo b hi w0) (hc : Same w0 8 #[fam 3 (.slice bs n cp) d p a lo b hi] (.int .i64 0)) :
 ∃ r : RB, Same w0 11 #[fam 3 (.slice bs n cp) d p a lo b hi, .int .i64 q, .int .i64 day] (.tuple #[.agg #[.int .i8 r.a, .int .i64 r.lo, .int .i8 r.b, .int .i64 r.hi], .bool r.is, .int .i64 0]) := by
 have U0 := fun W (hb : Below w0.heap.size w0 W) => Un.kK lo p W (hk.below hb).cal h.h0 h.h1 h.p0 h.p1
 have U1 := fun W (hb : Below w0.heap.size w0 W) => Un.kK hi p W (hk.below hb).cal h.h2 h.h3 h.p0 h.p1
 have U2 := fun W (hb : Below w0.heap.size w0 W) => Un.kK day p W (hk.below hb).cal h0 h1 h.p0 h.p1
 have b2 := aJl p day h0 h1
 obtain ⟨l2, u2, e2, hA⟩ : ∃ x y e, aT p day = (x, y, e) := ⟨_, _, _, rfl⟩
 rw [hA] at b2 U2
 dsimp only at b2 U2
 obtain ⟨⟨l3, u3, e3, U3⟩, ⟨l4, u4, e4, U4⟩⟩ := YN (u2 := u2) hpr hk hst b2.1 b2.2
 generalize aT p lo = t0 at U0
 generalize aT p hi = t1 at U1
 obtain ⟨l0, u0, e0⟩ := t0
 obtain ⟨l1, u1, e1⟩ := t1
 dsimp only at U0 U1
 unfold Un.rv at U0 U1 U2
 obtain ⟨r0, R0⟩ := zN (a := a) (lo := lo) (b := b) (hi := hi) (p := p) 0 l0 0 u0 e0 hst
 obtain ⟨r1, R1⟩ := zN (a := a) (lo := lo) (b := b) (hi := hi) (p := p) 0 l1 0 u1 e1 hst
 obtain ⟨r2, R2⟩ := zN (a := a) (lo := lo) (b := b) (hi := hi) (p := p) 0 l2 0 u2 e2 hst
 obtain ⟨r3, R3⟩ := zN (a := a) (lo := lo) (b := b) (hi := hi) (p := p) 0 l3 0 u3 e3 hst
 obtain ⟨r4, R4⟩ := zN (a := a) (lo := lo) (b := b) (hi := hi) (p := p) 0 l4 0 u4 e4 hst
 refine exF (aG5 3 bs n cp d p a lo b hi q day _ _ _ _ _ _ _ _ _ _ _ _ _ _ _ _ _ _ _ _ _ _ _ _ _ _ _ _ _ _ _ _ _ _ _ _ _ _ _ _ hst hc U0 R0 U1 R1 U2 R2 U3 R3 U4 R4) ?_
 repeat (first | exact IsF.mk | apply IsF.cond)
end
end Sk
end
section
open Go.RowKit Go.Lib
namespace Sk
open Un (ba bt ri rb aT)
open Bk (Rw Dt bZ hasB aZ qI)
open Ev (eF gZ hp)
structure aK3 (bs : Option Addr) (n : Nat) (f : Nat -> R4) (d : Dt) (k p lo hi : Int) (w : World) : Prop where
 run : AY w bs n f
 bd : ∀ j, (f j).Bd
 s0 : -9223372036854775808 <= d.sig
 s1 : d.sig < 9223372036854775808
 m0 : 0 <= d.m0
 m1 : 0 <= d.m1
 m2 : 0 <= d.m2
 p0 : 0 <= p
 p1 : p < 256
 h0 : -9223372036854775808 <= lo
 h1 : lo < 9223372036854775808
 h2 : -9223372036854775808 <= hi
 h3 : hi < 9223372036854775808
 k0 : 0 <= k
theorem aG8 (k : Int) (n : Nat) (p a b : Int) (U : Bool) (S R ER sig : Int) (X M FT : Bool) (hS : 0 <= S) (hE : 0 <= ER) : 0 <= MP k n p a b U S R ER sig X M FT := by
 unfold MP
 (repeat' split) <;> omega
theorem aD1 {k : Int} {n : Nat} {p a b : Int} {U : Bool} {S R ER sig : Int} {X M FT : Bool} (h : MP k n p a b U S R ER sig X M FT = 0) : 1 <= k /\ (k = 1 -> 0 < n) /\ (k = 3 -> 1 <= p /\ p <= 3) := by
 unfold MP at h
 by_cases c : k < 1 \/ 5 < k
 . rw [if_pos c] at h; omega
 . refine ⟨by omega, fun hk => ?_, fun hk => ?_⟩
   rw [if_neg c] at h
   split at h
   . omega
   . by_cases hn : n = 0
     . simp [hk, hn] at h
     . omega
   rw [if_neg c] at h
   split at h
   . omega
   . rw [if_neg (by omega), if_neg (by omega)] at h
     split at h <;> omega
theorem aHC {k : Int} {n : Nat} {e : Int} (h : 0 <= e) : 0 <= yM k n e := by unfold yM; (repeat' split) <;> omega
theorem aEm {k : Int} {n : Nat} {e : Int} (h : yM k n e = 0) : e = 0 /\ k <= 3 := by
 unfold yM at h
 (repeat' split at h) <;> omega
theorem aBp {f : Nat -> Int} (h : ∀ i, 0 <= f i) : ∀ n i, 0 <= scan f n i
 | 0, i => by rw [aCV]; omega
 | n + 1, i => by
  rw [scan]
  split
  . exact aBp h n (i + 1)
  . exact h i
theorem aCS (f : Nat -> R4) (n : Nat) : 0 <= kY f n := by
 unfold kY
 split
 . omega
 . refine aBp (fun i => ?_) n 0
   unfold OY R4.err cZ
   (repeat' split) <;> omega
theorem aGF {w0 : World} {bs : Option Addr} {n cp : Nat} {f : Nat -> R4} {d : Dt} {k p a lo b hi day : Int} (hst : eF gZ.g.n gZ.l w0 hp) (hk : qI w0) (h : aK3 bs n f d k p lo hi w0) (h0 : -9223372036854775808 <= day) (h1 : day < 9223372036854775808)
 (hL : Same w0 9 #[] (.bool true)) : Same w0 5 #[fam k (.slice bs n cp) d p a lo b hi, .int .i64 day] (.bool true) := by
 by_cases c1 : 8 < n
 . have g := aSp k bs n cp d p a lo b hi day hst c1 hL
   have e1 : decide (8 < ((n : Nat) : Int)) = true := decide_eq_true (by omega)
   simp only [e1, cond_true] at g
   exact g
 by_cases c2 : 20 < d.dg.size
 . have g := aO1 k bs n cp d p a lo b hi day hst c2 hL
   have e1 : decide (20 < ((d.dg.size : Nat) : Int)) = true := decide_eq_true (by omega)
   simp only [e1, cond_true, Bool.cond_self] at g
   exact g
 by_cases c3 : 10 < d.mo.size
 . have g := aO0 k bs n cp d p a lo b hi day hst c3 hL
   have e1 : decide (10 < ((d.mo.size : Nat) : Int)) = true := decide_eq_true (by omega)
   simp only [e1, cond_true, Bool.cond_self] at g
   exact g
 by_cases c4 : 10 < d.da.size
 . have g := aO2 k bs n cp d p a lo b hi day hst c4 hL
   have e1 : decide (10 < ((d.da.size : Nat) : Int)) = true := decide_eq_true (by omega)
   simp only [e1, cond_true, Bool.cond_self] at g
   exact g
 have F : Y2 k bs n f d p a lo b hi w0 := ⟨h.run, h.bd, by omega, by omega, by omega, h.s0, h.s1, h.m0, h.m1, h.m2, h.p0, h.p1, h.h0, h.h1, h.h2, h.h3⟩
 have D : TR d w0 := ⟨hk, hst, by omega, by omega, h.m0, h.m1, h.m2⟩
 obtain ⟨zd, hd1, hd2⟩ := aHn d
 obtain ⟨zr, hr1, hr2⟩ := aIA a lo b hi
 obtain ⟨M, hm1, hm2⟩ := aDK d.m0 d.m1 d.m2
 obtain ⟨e, he⟩ : ∃ e, e = MP k n p a b (pY k (decide (n = 0)) zd (p == 0) zr) (kY f n) (cZ a lo b hi) d.err d.sig (xX d) M (ED p a lo b hi) := ⟨_, rfl⟩
 have hsame : Same w0 22 #[fam k (.slice bs n cp) d p a lo b hi] (.int .i64 e) := by
  have := MQ k bs n cp f d p a lo b hi hst hk F ⟨hd1, hd2⟩ ⟨hr1, hr2⟩ ⟨hm1, hm2⟩
  rw [<- he] at this
  exact this
 have aMf : Same w0 21 #[fam k (.slice bs n cp) d p a lo b hi] (.int .i64 e) := by
  have := LQ k bs n cp f d p a lo b hi zd zr M w0 hst F h.k0 ⟨hd1, hd2⟩ ⟨hr1, hr2⟩ ⟨hm1, hm2⟩
  rw [<- he] at this
  exact this
 have hep : 0 <= d.err := by
  by_cases c : d.err = 0
  . omega
  . have := aB9 c; omega
 have e0 : 0 <= e := by rw [he]; exact aG8 _ _ _ _ _ _ _ _ _ _ _ _ _ (aCS f n) hep
 have S := aCW hst hsame
 have R := aDd hst e0 aMf
 by_cases hbad : 0 < yM k n e
 . have g := aL7 k bs n cp d p a lo b hi day (yM k n e) hst hbad hL R S (kS 0 day hst hbad S) (kS 1 day hst hbad S) (kS 2 day hst hbad S) (kS 3 day hst hbad S) (kS 4 day hst hbad S)
   have e1 : decide (0 < yM k n e) = true := decide_eq_true hbad
   have e2 : (yM k n e == yM k n e) = true := by simp
   simp only [e1, e2, cond_true, Bool.cond_self] at g
   exact g
 . have hb0 : yM k n e = 0 := by have := @aHC k n e e0; omega
   obtain ⟨ez, k3⟩ := aEm hb0
   rw [hb0] at R S
   have key : ∀ q, ∃ r : RB, Same w0 11 #[fam k (.slice bs n cp) d p a lo b hi, .int .i64 q, .int .i64 day] (.tuple #[.agg #[.int .i8 r.a, .int .i64 r.lo, .int .i8 r.b, .int .i64 r.hi], .bool r.is, .int .i64 0]) := by
    intro q
    rw [he] at ez
    obtain ⟨k1, kn, kp⟩ := aD1 ez
    have hkk : k = 1 \/ k = 2 \/ k = 3 := by omega
    rcases hkk with rfl | rfl | rfl
    . exact SK q day hst F (kn rfl) S
    . exact SL q day h0 h1 D S
    . exact MO q day (kp rfl) h0 h1 hk hst F S
   obtain ⟨r0, H0⟩ := key 0
   obtain ⟨r1, H1⟩ := key 1
   obtain ⟨r2, H2⟩ := key 2
   obtain ⟨r3, H3⟩ := key 3
   obtain ⟨r4, H4⟩ := key 4
   have g := aJc k bs n cp d p a lo b hi day _ _ _ _ _ _ _ _ _ _ _ _ _ _ _ _ _ _ _ _ _ _ _ _ _ hst hL R S H0 H1 H2 H3 H4
   simp only [Bool.cond_self] at g
   exact g
end Sk
end
end Go.Proofs.YtacggmlngekidaaGreatDoor
