/- THE WALKS of axes.Run and of what the statement AxesRun asks of it. -/
import Derived.Test.YtmebmfgmopdieaaGreatDoorAxChk
set_option linter.unusedSimpArgs false
set_option linter.unusedVariables false
set_option maxRecDepth 100000
namespace Go.Proofs.YtmebmfgmopdieaaGreatDoor
open Go.RowKit
namespace Ax
open Fl

theorem minf_any (s : Int) (w : World) : Calls Tryz.prog 21 #[.int .i64 s] w fun r w' => r = .returned (.float .f64 (infW s)) ∧ w = w' := by
  by_cases c : s < 0
  · have e : infW s = 18442240474082181120 := by unfold infW; rw [if_pos c]
    have E := Lib.hid e
    clear e
    go_enter Tryz.func21, Tryz.ntmps21
    go_wp2
    go_ret
    exact ⟨rf E.out.symm, rfl⟩
  · have e : infW s = 9218868437227405312 := by unfold infW; rw [if_neg c]
    have E := Lib.hid e
    clear e
    go_enter Tryz.func21, Tryz.ntmps21
    go_wp2
    go_ret
    exact ⟨rf E.out.symm, rfl⟩

theorem numDown_any (a d : Int) (w : World) (a0 : -128 ≤ a) (a1 : a < 128) (l0 : -9223372036854775808 ≤ d) (l1 : d < 9223372036854775808) :
    Calls Tryz.prog 29 #[ev a d, .func (.func 30) #[] #[]] w fun r w' => r = .returned (.float .f64 (loW a d)) ∧ Below w.heap.size w w' := by
  have HD := Lib.hid (fun w => down_any d w l0 l1)
  unfold ev
  by_cases c : a = 0
  · subst c
    go_enter Tryz.func29, Tryz.ntmps29
    go_wp2_with (first | (go_at_call 30; refine (HD.out _).mono ?_; rintro _ w' ⟨rfl, rfl⟩))
    go_ret
    exact ⟨rf (by unfold loW; rw [if_pos rfl]), ba (Below.refl _ _) _⟩
  · have t : (a != 0) = true := by rw [bne_iff_ne]; exact c
    have C := Lib.hid c; clear c
    go_enter Tryz.func29, Tryz.ntmps29
    go_wp2_with (first | (go_at_call 21; refine (minf_any _ _).mono ?_; rintro _ w' ⟨rfl, rfl⟩))
    go_ret
    exact ⟨rf (by unfold loW; rw [if_neg C.out]), ba (Below.refl _ _) _⟩
theorem numUp_any (a d : Int) (w : World) (a0 : -128 ≤ a) (a1 : a < 128) (l0 : -9223372036854775808 ≤ d) (l1 : d < 9223372036854775808) :
    Calls Tryz.prog 29 #[ev a d, .func (.func 31) #[] #[]] w fun r w' => r = .returned (.float .f64 (hiW a d)) ∧ Below w.heap.size w w' := by
  have HD := Lib.hid (fun w => up_any d w l0 l1)
  unfold ev
  by_cases c : a = 0
  · subst c
    go_enter Tryz.func29, Tryz.ntmps29
    go_wp2_with (first | (go_at_call 31; refine (HD.out _).mono ?_; rintro _ w' ⟨rfl, rfl⟩))
    go_ret
    exact ⟨rf (by unfold hiW; rw [if_pos rfl]), ba (Below.refl _ _) _⟩
  · have t : (a != 0) = true := by rw [bne_iff_ne]; exact c
    have C := Lib.hid c; clear c
    go_enter Tryz.func29, Tryz.ntmps29
    go_wp2_with (first | (go_at_call 21; refine (minf_any _ _).mono ?_; rintro _ w' ⟨rfl, rfl⟩))
    go_ret
    exact ⟨rf (by unfold hiW; rw [if_neg C.out]), ba (Below.refl _ _) _⟩

theorem rlo_any (a d : Int) (w : World) (l0 : -9223372036854775808 ≤ d) (l1 : d < 9223372036854775808) :
    Calls Tryz.prog 36 #[ev a d] w fun r w' => r = .returned (.float .f64 (loW a d)) ∧ Below w.heap.size w w' := by
  have HD := Lib.hid (fun w => down36_any d w l0 l1)
  unfold ev
  by_cases c : a = 0
  · subst c
    go_enter Tryz.func36, Tryz.ntmps36
    go_wp2_with (first | (go_at_call 12; refine (HD.out _).mono ?_; rintro _ w' ⟨rfl, rfl⟩))
    go_ret
    exact ⟨rf (by unfold loW; rw [if_pos rfl]), ba (Below.refl _ _) _⟩
  · have t : (a != 0) = true := by rw [bne_iff_ne]; exact c
    have C := Lib.hid c; clear c
    go_enter Tryz.func36, Tryz.ntmps36
    go_wp2_with (first | (go_at_call 60; refine (inf36_any _ _).mono ?_; rintro _ w' ⟨rfl, rfl⟩))
    go_ret
    exact ⟨rf (by unfold loW; rw [if_neg C.out]), ba (Below.refl _ _) _⟩
theorem rhi_any (a d : Int) (w : World) (l0 : -9223372036854775808 ≤ d) (l1 : d < 9223372036854775808) :
    Calls Tryz.prog 37 #[ev a d] w fun r w' => r = .returned (.float .f64 (hiW a d)) ∧ Below w.heap.size w w' := by
  have HD := Lib.hid (fun w => up36_any d w l0 l1)
  unfold ev
  by_cases c : a = 0
  · subst c
    go_enter Tryz.func37, Tryz.ntmps37
    go_wp2_with (first | (go_at_call 13; refine (HD.out _).mono ?_; rintro _ w' ⟨rfl, rfl⟩))
    go_ret
    exact ⟨rf (by unfold hiW; rw [if_pos rfl]), ba (Below.refl _ _) _⟩
  · have t : (a != 0) = true := by rw [bne_iff_ne]; exact c
    have C := Lib.hid c; clear c
    go_enter Tryz.func37, Tryz.ntmps37
    go_wp2_with (first | (go_at_call 60; refine (inf36_any _ _).mono ?_; rintro _ w' ⟨rfl, rfl⟩))
    go_ret
    exact ⟨rf (by unfold hiW; rw [if_neg C.out]), ba (Below.refl _ _) _⟩

theorem eErr_vals {a d : Int} (h : eErr a d = 0) : a = 0 ∨ a = 1 ∨ a = -1 := by
  unfold eErr at h; (repeat' split at h) <;> omega

theorem rcheck9_any (a lo b hi : Int) (w : World) :
    Calls Tryz.prog 8 #[rv a lo b hi] w fun r w' => r = .returned (.int .i64 (rErr a lo b hi)) ∧ Below w.heap.size w w' := by
  have HE := Lib.hid (fun a d w => rcheck8_any a d w)
  have HC := Lib.hid (fun a d b e w => rcmp8_any a d b e w)
  unfold ev at HE HC
  unfold rv
  have HX : rErr a lo b hi = if eErr a lo ≠ 0 ∨ eErr b hi ≠ 0 then 5 else if 0 < a ∨ b < 0 then 4 else if 0 < ecmp a lo b hi then 12 else 0 := rfl
  replace HX := Lib.hid HX
  have HV : ecmp a lo b hi = -1 ∨ ecmp a lo b hi = 0 ∨ ecmp a lo b hi = 1 := by unfold ecmp cmpI; (repeat' split) <;> omega
  replace HV := Lib.hid HV
  go_enter Tryz.func8, Tryz.ntmps8
  go_wp2_with fail
  refine (HE.out _ _ _).mono ?_; rintro _ w1 ⟨rfl, hb1⟩
  obtain ⟨q0, q1, q2, q3⟩ := run_cells hb1
  have hB := Lib.hid (bt (ba (Below.refl _ _) _) hb1)
  have hH := Lib.hid hb1
  clear hb1
  by_cases c1 : eErr a lo = 0
  · have t : (eErr a lo != 0) = false := by simpa using c1
    have C1 := Lib.hid c1; clear c1
    go_wp2_with fail
    refine (HE.out _ _ _).mono ?_; rintro _ w2 ⟨rfl, hb2⟩
    clear q0 q1 q2 q3 t
    replace hH := Lib.hid (hH.out.trans (hb2.mono hH.out.size))
    obtain ⟨q0, q1, q2, q3⟩ := run_cells hH.out
    replace hB := Lib.hid (bt hB.out hb2)
    clear hb2
    by_cases c2 : eErr b hi = 0
    · have t : (eErr b hi != 0) = false := by simpa using c2
      have v1 := eErr_vals C1.out
      have v2 := eErr_vals c2
      have C2 := Lib.hid c2; clear c2
      by_cases c3 : 0 < a ∨ b < 0
      · have HC3 := Lib.hid c3
        by_cases c4 : 0 < a
        · have t4 : (a == 1) = true := by rw [beq_iff_eq]; omega
          clear c3 v1 v2
          go_wp2_with fail
          go_ret
          exact ⟨ri (by rw [HX.out, if_neg (by simp [C1.out, C2.out]), if_pos HC3.out]), hB.out⟩
        · have t4 : (a == 1) = false := by rw [beq_eq_false_iff_ne]; omega
          have t5 : (b == -1) = true := by rw [beq_iff_eq]; omega
          clear c3 v1 v2
          go_wp2_with fail
          go_ret
          exact ⟨ri (by rw [HX.out, if_neg (by simp [C1.out, C2.out]), if_pos HC3.out]), hB.out⟩
      · have t4 : (a == 1) = false := by rw [beq_eq_false_iff_ne]; omega
        have t5 : (b == -1) = false := by rw [beq_eq_false_iff_ne]; omega
        have HC3 := Lib.hid c3
        clear c3 v1 v2
        go_wp2_with fail
        refine (HC.out _ _ _ _ _).mono ?_; rintro _ w3 ⟨rfl, hb3⟩
        clear q0 q1 q2 q3
        replace hB := Lib.hid (bt hB.out hb3)
        clear hb3
        by_cases c6 : 0 < ecmp a lo b hi
        · have t6 : (ecmp a lo b hi == 1) = true := by rw [beq_iff_eq]; have := HV.out; omega
          have C6 := Lib.hid c6; clear c6
          go_wp2_with fail
          go_ret
          exact ⟨ri (by rw [HX.out, if_neg (by simp [C1.out, C2.out]), if_neg HC3.out, if_pos C6.out]), hB.out⟩
        · have t6 : (ecmp a lo b hi == 1) = false := by rw [beq_eq_false_iff_ne]; omega
          have C6 := Lib.hid c6; clear c6
          go_wp2_with fail
          go_ret
          exact ⟨ri (by rw [HX.out, if_neg (by simp [C1.out, C2.out]), if_neg HC3.out, if_neg (by have := C6.out; omega)]), hB.out⟩
    · have t : (eErr b hi != 0) = true := by simpa using c2
      have C2 := Lib.hid c2; clear c2
      go_wp2_with fail
      go_ret
      exact ⟨ri (by rw [HX.out, if_pos (.inr C2.out)]), hB.out⟩
  · have t : (eErr a lo != 0) = true := by simpa using c1
    have C1 := Lib.hid c1; clear c1
    go_wp2_with fail
    go_ret
    exact ⟨ri (by rw [HX.out, if_pos (.inl C1.out)]), hB.out⟩
end Ax
end Go.Proofs.YtmebmfgmopdieaaGreatDoor
