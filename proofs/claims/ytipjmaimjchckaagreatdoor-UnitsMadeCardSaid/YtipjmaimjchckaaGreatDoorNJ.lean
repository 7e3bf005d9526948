/- THE WALKS of layer 23's program: Is, index and what is built on them. -/
import Derived.Test.YtipjmaimjchckaaGreatDoorNH
/-! THE WALKS of layer 23's program: Is, index and what is built on them. -/
set_option linter.unusedSimpArgs false
set_option linter.unusedVariables false
namespace Go.Proofs.YtipjmaimjchckaaGreatDoor
open Go.RowKit
namespace Un
open Cal

/-- What Is answers. -/
def isC (p a lo b hi : Int) : Bool := decide (a = 0) && (decide ((holdAll p lo).2.2 = 0) && (decide (b = 0) && (decide ((holdAll p lo).1 = lo) && decide ((holdAll p lo).2.1 = hi))))

set_option maxHeartbeats 400000 in
theorem is_walk (p a lo b hi x y e : Int) (w : World) (hs : CalOk w)
    (HH : ∀ W, CalOk W → Calls Tryz.prog 8 #[.int .i64 lo, .int .u8 p] W fun r w' => r = .returned (.tuple #[rv 0 x 0 y, .int .i64 e]) ∧ Below W.heap.size W w') :
    Calls Tryz.prog 14 #[rv a lo b hi, .int .u8 p] w fun r w' => r = .returned (.bool (decide (a = 0) && (decide (e = 0) && (decide (b = 0) && (decide (x = lo) && decide (y = hi)))))) ∧ Below w.heap.size w w' := by
  replace HH := Lib.hid HH
  have HS := Lib.hid hs; clear hs
  unfold rv at HH ⊢
  by_cases ha : a = 0
  · subst ha
    go_enter Tryz.func14, Tryz.ntmps14
    go_wp2_with fail
    refine (HH.out _ (HS.out.below (ba (Below.refl _ _) _))).mono ?_; rintro _ w1 ⟨rfl, hb1⟩
    obtain ⟨q0, q1, q2, q3, z0, z1, z2, z3⟩ := run_cells hb1
    by_cases he : e = 0
    · subst he
      have hb1' := ba hb1 (.cells #[.int .i8 0, .int .i64 x, .int .i8 0, .int .i64 y] 26)
      obtain ⟨q0, q1, q2, q3, z0, z1, z2, z3⟩ := run_cells hb1'
      go_wp2_with fail
      all_goals
        clear q0 q1 q2 q3 z0 z1 z2 z3 HH HS
        subst_vars
        go_ret
        refine ⟨?_, bt (ba (Below.refl _ _) _) hb1'⟩
        clear hb1' hb1
        first | rfl | (simp_all; done) | (simp_all; omega)
    · have t : (e == 0) = false := by rw [beq_eq_false_iff_ne]; exact he
      replace he := Lib.hid he
      go_wp2_with fail
      go_ret
      exact ⟨by simp [he.out], bt (ba (Below.refl _ _) _) (ba hb1 _)⟩
  · have t : (a != 0) = true := by rw [bne_iff_ne]; exact ha
    replace ha := Lib.hid ha
    go_enter Tryz.func14, Tryz.ntmps14
    go_wp2_with fail
    go_ret
    exact ⟨by simp [ha.out], ba (Below.refl _ _) _⟩

theorem is_any (p a lo b hi : Int) (w : World) (hs : CalOk w) (h0 : -9223372036854775808 ≤ lo) (h1 : lo < 9223372036854775808) (p0 : 0 ≤ p) (p1 : p < 256) :
    Calls Tryz.prog 14 #[rv a lo b hi, .int .u8 p] w fun r w' => r = .returned (.bool (isC p a lo b hi)) ∧ Below w.heap.size w w' :=
  is_walk p a lo b hi _ _ _ w hs fun W c => holding_any lo p W c h0 h1 p0 p1

end Un
end Go.Proofs.YtipjmaimjchckaaGreatDoor

