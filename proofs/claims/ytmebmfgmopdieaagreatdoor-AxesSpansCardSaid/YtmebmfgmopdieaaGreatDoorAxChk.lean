/- THE WALKS of runs.Check and of its reference. -/
import Derived.Test.YtmebmfgmopdieaaGreatDoorAxRun
set_option linter.unusedSimpArgs false
set_option linter.unusedVariables false
set_option maxRecDepth 100000
namespace Go.Proofs.YtmebmfgmopdieaaGreatDoor
open Go.RowKit
namespace Ax
open Fl

theorem run_cells {w W : World} {a lo b hi : Value} {t : TypeId} (h : Below (w.alloc (.cells #[a, lo, b, hi] t)).heap.size (w.alloc (.cells #[a, lo, b, hi] t)) W) :
    W.cell? ⟨w.heap.size, 0, none⟩ = some a ∧ W.cell? ⟨w.heap.size, 1, none⟩ = some lo ∧ W.cell? ⟨w.heap.size, 2, none⟩ = some b ∧ W.cell? ⟨w.heap.size, 3, none⟩ = some hi := by
  refine ⟨?_, ?_, ?_, ?_⟩
  · rw [h.cell (by simp)]; simp [go_sem]
  · rw [h.cell (by simp)]; simp [go_sem]
  · rw [h.cell (by simp)]; simp [go_sem]
  · rw [h.cell (by simp)]; simp [go_sem]

theorem runCheck_any (a lo b hi : Int) (w : World) :
    Calls Tryz.prog 27 #[rv a lo b hi] w fun r w' => r = .returned (.int .i64 (rErr a lo b hi)) ∧ Below w.heap.size w w' := by
  have HE := Lib.hid (fun a d w => echeck_any a d w)
  have HC := Lib.hid (fun a d b e w => ecmp_any a d b e w)
  unfold ev at HE HC
  unfold rv
  have HX : rErr a lo b hi = if eErr a lo ≠ 0 ∨ eErr b hi ≠ 0 then 5 else if 0 < a ∨ b < 0 then 4 else if 0 < ecmp a lo b hi then 12 else 0 := rfl
  replace HX := Lib.hid HX
  go_enter Tryz.func27, Tryz.ntmps27
  go_wp2_with fail
  refine (HE.out _ _ _).mono ?_; rintro _ w1 ⟨rfl, hb1⟩
  obtain ⟨q0, q1, q2, q3⟩ := run_cells hb1
  have hB := Lib.hid (bt (ba (Below.refl _ _) _) hb1)
  have hH := Lib.hid hb1
  clear hb1
  by_cases c1 : eErr a lo = 0
  · have t : (eErr a lo != 0) = false := by simpa using c1
    have C1 := Lib.hid c1; clear c1
    go_wp2_with fail
    refine (HE.out _ _ _).mono ?_; rintro _ w2 ⟨rfl, hb2⟩
    clear q0 q1 q2 q3 t
    replace hH := Lib.hid (hH.out.trans (hb2.mono hH.out.size))
    obtain ⟨q0, q1, q2, q3⟩ := run_cells hH.out
    replace hB := Lib.hid (bt hB.out hb2)
    clear hb2
    by_cases c2 : eErr b hi = 0
    · have t : (eErr b hi != 0) = false := by simpa using c2
      have C2 := Lib.hid c2; clear c2
      by_cases c3 : 0 < a ∨ b < 0
      · have HC3 := Lib.hid c3
        by_cases c4 : 0 < a
        · clear c3
          go_wp2_with fail
          go_ret
          exact ⟨ri (by rw [HX.out, if_neg (by simp [C1.out, C2.out]), if_pos HC3.out]), hB.out⟩
        · have c5 : b < 0 := by omega
          clear c3
          go_wp2_with fail
          go_ret
          exact ⟨ri (by rw [HX.out, if_neg (by simp [C1.out, C2.out]), if_pos HC3.out]), hB.out⟩
      · have c4 : ¬ 0 < a := by omega
        have c5 : ¬ b < 0 := by omega
        have HC3 := Lib.hid c3
        clear c3
        go_wp2_with fail
        refine (HC.out _ _ _ _ _).mono ?_; rintro _ w3 ⟨rfl, hb3⟩
        clear q0 q1 q2 q3
        replace hB := Lib.hid (bt hB.out hb3)
        clear hb3
        by_cases c6 : 0 < ecmp a lo b hi
        · go_wp2_with fail
          go_ret
          exact ⟨ri (by rw [HX.out, if_neg (by simp [C1.out, C2.out]), if_neg HC3.out, if_pos c6]), hB.out⟩
        · go_wp2_with fail
          go_ret
          exact ⟨ri (by rw [HX.out, if_neg (by simp [C1.out, C2.out]), if_neg HC3.out, if_neg (by omega)]), hB.out⟩
    · have t : (eErr b hi != 0) = true := by simpa using c2
      have C2 := Lib.hid c2; clear c2
      go_wp2_with fail
      go_ret
      exact ⟨ri (by rw [HX.out, if_pos (.inr C2.out)]), hB.out⟩
  · have t : (eErr a lo != 0) = true := by simpa using c1
    have C1 := Lib.hid c1; clear c1
    go_wp2_with fail
    go_ret
    exact ⟨ri (by rw [HX.out, if_pos (.inl C1.out)]), hB.out⟩
end Ax
end Go.Proofs.YtmebmfgmopdieaaGreatDoor
