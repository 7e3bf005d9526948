/- THE WALKS of axes.Run and of what the statement AxesRun asks of it. -/
import Derived.Test.YtmebmfgmopdieaaGreatDoorFC
import Derived.Deep.DeepCutAuto
import Derived.Test.YtmebmfgmopdieaaGreatDoorFA
/-! THE WALKS of axes.Run and of what the statement AxesRun asks of it. -/
set_option linter.unusedSimpArgs false
set_option linter.unusedVariables false
set_option maxRecDepth 100000
namespace Go.Proofs.YtmebmfgmopdieaaGreatDoor
open Go.RowKit
namespace Ax
open Fl

theorem minf_any (s : Int) (w : World) : Calls Tryz.prog 21 #[.int .i64 s] w fun r w' => r = .returned (.float .f64 (infW s)) ∧ w = w' := by
  by_cases c : s < 0
  · have e : infW s = 18442240474082181120 := by unfold infW; rw [if_pos c]
    have E := Lib.hid e
    clear e
    go_enter Tryz.func21, Tryz.ntmps21
    go_wp2
    go_ret
    exact ⟨rf E.out.symm, rfl⟩
  · have e : infW s = 9218868437227405312 := by unfold infW; rw [if_neg c]
    have E := Lib.hid e
    clear e
    go_enter Tryz.func21, Tryz.ntmps21
    go_wp2
    go_ret
    exact ⟨rf E.out.symm, rfl⟩

theorem numDown_any (a d : Int) (w : World) (a0 : -128 ≤ a) (a1 : a < 128) (l0 : -9223372036854775808 ≤ d) (l1 : d < 9223372036854775808) :
    Calls Tryz.prog 29 #[ev a d, .func (.func 30) #[] #[]] w fun r w' => r = .returned (.float .f64 (loW a d)) ∧ Below w.heap.size w w' := by
  have HD := Lib.hid (fun w => down_any d w l0 l1)
  unfold ev
  by_cases c : a = 0
  · subst c
    go_enter Tryz.func29, Tryz.ntmps29
    go_wp2_with (first | (go_at_call 30; refine (HD.out _).mono ?_; rintro _ w' ⟨rfl, rfl⟩))
    go_ret
    exact ⟨rf (by unfold loW; rw [if_pos rfl]), ba (Below.refl _ _) _⟩
  · have t : (a != 0) = true := by rw [bne_iff_ne]; exact c
    have C := Lib.hid c; clear c
    go_enter Tryz.func29, Tryz.ntmps29
    go_wp2_with (first | (go_at_call 21; refine (minf_any _ _).mono ?_; rintro _ w' ⟨rfl, rfl⟩))
    go_ret
    exact ⟨rf (by unfold loW; rw [if_neg C.out]), ba (Below.refl _ _) _⟩
theorem numUp_any (a d : Int) (w : World) (a0 : -128 ≤ a) (a1 : a < 128) (l0 : -9223372036854775808 ≤ d) (l1 : d < 9223372036854775808) :
    Calls Tryz.prog 29 #[ev a d, .func (.func 31) #[] #[]] w fun r w' => r = .returned (.float .f64 (hiW a d)) ∧ Below w.heap.size w w' := by
  have HD := Lib.hid (fun w => up_any d w l0 l1)
  unfold ev
  by_cases c : a = 0
  · subst c
    go_enter Tryz.func29, Tryz.ntmps29
    go_wp2_with (first | (go_at_call 31; refine (HD.out _).mono ?_; rintro _ w' ⟨rfl, rfl⟩))
    go_ret
    exact ⟨rf (by unfold hiW; rw [if_pos rfl]), ba (Below.refl _ _) _⟩
  · have t : (a != 0) = true := by rw [bne_iff_ne]; exact c
    have C := Lib.hid c; clear c
    go_enter Tryz.func29, Tryz.ntmps29
    go_wp2_with (first | (go_at_call 21; refine (minf_any _ _).mono ?_; rintro _ w' ⟨rfl, rfl⟩))
    go_ret
    exact ⟨rf (by unfold hiW; rw [if_neg C.out]), ba (Below.refl _ _) _⟩

theorem rlo_any (a d : Int) (w : World) (l0 : -9223372036854775808 ≤ d) (l1 : d < 9223372036854775808) :
    Calls Tryz.prog 36 #[ev a d] w fun r w' => r = .returned (.float .f64 (loW a d)) ∧ Below w.heap.size w w' := by
  have HD := Lib.hid (fun w => down36_any d w l0 l1)
  unfold ev
  by_cases c : a = 0
  · subst c
    go_enter Tryz.func36, Tryz.ntmps36
    go_wp2_with (first | (go_at_call 12; refine (HD.out _).mono ?_; rintro _ w' ⟨rfl, rfl⟩))
    go_ret
    exact ⟨rf (by unfold loW; rw [if_pos rfl]), ba (Below.refl _ _) _⟩
  · have t : (a != 0) = true := by rw [bne_iff_ne]; exact c
    have C := Lib.hid c; clear c
    go_enter Tryz.func36, Tryz.ntmps36
    go_wp2_with (first | (go_at_call 60; refine (inf36_any _ _).mono ?_; rintro _ w' ⟨rfl, rfl⟩))
    go_ret
    exact ⟨rf (by unfold loW; rw [if_neg C.out]), ba (Below.refl _ _) _⟩
theorem rhi_any (a d : Int) (w : World) (l0 : -9223372036854775808 ≤ d) (l1 : d < 9223372036854775808) :
    Calls Tryz.prog 37 #[ev a d] w fun r w' => r = .returned (.float .f64 (hiW a d)) ∧ Below w.heap.size w w' := by
  have HD := Lib.hid (fun w => up36_any d w l0 l1)
  unfold ev
  by_cases c : a = 0
  · subst c
    go_enter Tryz.func37, Tryz.ntmps37
    go_wp2_with (first | (go_at_call 13; refine (HD.out _).mono ?_; rintro _ w' ⟨rfl, rfl⟩))
    go_ret
    exact ⟨rf (by unfold hiW; rw [if_pos rfl]), ba (Below.refl _ _) _⟩
  · have t : (a != 0) = true := by rw [bne_iff_ne]; exact c
    have C := Lib.hid c; clear c
    go_enter Tryz.func37, Tryz.ntmps37
    go_wp2_with (first | (go_at_call 60; refine (inf36_any _ _).mono ?_; rintro _ w' ⟨rfl, rfl⟩))
    go_ret
    exact ⟨rf (by unfold hiW; rw [if_neg C.out]), ba (Below.refl _ _) _⟩

theorem eErr_vals {a d : Int} (h : eErr a d = 0) : a = 0 ∨ a = 1 ∨ a = -1 := by
  unfold eErr at h; (repeat' split at h) <;> omega

theorem rcheck9_any (a lo b hi : Int) (w : World) :
    Calls Tryz.prog 8 #[rv a lo b hi] w fun r w' => r = .returned (.int .i64 (rErr a lo b hi)) ∧ Below w.heap.size w w' := by
  have HE := Lib.hid (fun a d w => rcheck8_any a d w)
  have HC := Lib.hid (fun a d b e w => rcmp8_any a d b e w)
  unfold ev at HE HC
  unfold rv
  have HX : rErr a lo b hi = if eErr a lo ≠ 0 ∨ eErr b hi ≠ 0 then 5 else if 0 < a ∨ b < 0 then 4 else if 0 < ecmp a lo b hi then 12 else 0 := rfl
  replace HX := Lib.hid HX
  have HV : ecmp a lo b hi = -1 ∨ ecmp a lo b hi = 0 ∨ ecmp a lo b hi = 1 := by unfold ecmp cmpI; (repeat' split) <;> omega
  replace HV := Lib.hid HV
  go_enter Tryz.func8, Tryz.ntmps8
  go_wp2_with fail
  refine (HE.out _ _ _).mono ?_; rintro _ w1 ⟨rfl, hb1⟩
  obtain ⟨q0, q1, q2, q3⟩ := run_cells hb1
  have hB := Lib.hid (bt (ba (Below.refl _ _) _) hb1)
  have hH := Lib.hid hb1
  clear hb1
  by_cases c1 : eErr a lo = 0
  · have t : (eErr a lo != 0) = false := by simpa using c1
    have C1 := Lib.hid c1; clear c1
    go_wp2_with fail
    refine (HE.out _ _ _).mono ?_; rintro _ w2 ⟨rfl, hb2⟩
    clear q0 q1 q2 q3 t
    replace hH := Lib.hid (hH.out.trans (hb2.mono hH.out.size))
    obtain ⟨q0, q1, q2, q3⟩ := run_cells hH.out
    replace hB := Lib.hid (bt hB.out hb2)
    clear hb2
    by_cases c2 : eErr b hi = 0
    · have t : (eErr b hi != 0) = false := by simpa using c2
      have v1 := eErr_vals C1.out
      have v2 := eErr_vals c2
      have C2 := Lib.hid c2; clear c2
      by_cases c3 : 0 < a ∨ b < 0
      · have HC3 := Lib.hid c3
        by_cases c4 : 0 < a
        · have t4 : (a == 1) = true := by rw [beq_iff_eq]; omega
          clear c3 v1 v2
          go_wp2_with fail
          go_ret
          exact ⟨ri (by rw [HX.out, if_neg (by simp [C1.out, C2.out]), if_pos HC3.out]), hB.out⟩
        · have t4 : (a == 1) = false := by rw [beq_eq_false_iff_ne]; omega
          have t5 : (b == -1) = true := by rw [beq_iff_eq]; omega
          clear c3 v1 v2
          go_wp2_with fail
          go_ret
          exact ⟨ri (by rw [HX.out, if_neg (by simp [C1.out, C2.out]), if_pos HC3.out]), hB.out⟩
      · have t4 : (a == 1) = false := by rw [beq_eq_false_iff_ne]; omega
        have t5 : (b == -1) = false := by rw [beq_eq_false_iff_ne]; omega
        have HC3 := Lib.hid c3
        clear c3 v1 v2
        go_wp2_with fail
        refine (HC.out _ _ _ _ _).mono ?_; rintro _ w3 ⟨rfl, hb3⟩
        clear q0 q1 q2 q3
        replace hB := Lib.hid (bt hB.out hb3)
        clear hb3
        by_cases c6 : 0 < ecmp a lo b hi
        · have t6 : (ecmp a lo b hi == 1) = true := by rw [beq_iff_eq]; have := HV.out; omega
          have C6 := Lib.hid c6; clear c6
          go_wp2_with fail
          go_ret
          exact ⟨ri (by rw [HX.out, if_neg (by simp [C1.out, C2.out]), if_neg HC3.out, if_pos C6.out]), hB.out⟩
        · have t6 : (ecmp a lo b hi == 1) = false := by rw [beq_eq_false_iff_ne]; omega
          have C6 := Lib.hid c6; clear c6
          go_wp2_with fail
          go_ret
          exact ⟨ri (by rw [HX.out, if_neg (by simp [C1.out, C2.out]), if_neg HC3.out, if_neg (by have := C6.out; omega)]), hB.out⟩
    · have t : (eErr b hi != 0) = true := by simpa using c2
      have C2 := Lib.hid c2; clear c2
      go_wp2_with fail
      go_ret
      exact ⟨ri (by rw [HX.out, if_pos (.inr C2.out)]), hB.out⟩
  · have t : (eErr a lo != 0) = true := by simpa using c1
    have C1 := Lib.hid c1; clear c1
    go_wp2_with fail
    go_ret
    exact ⟨ri (by rw [HX.out, if_pos (.inl C1.out)]), hB.out⟩
end Ax
end Go.Proofs.YtmebmfgmopdieaaGreatDoor

/-! THE WALKS of axes.Run and of the reference's Span. -/
set_option linter.unusedSimpArgs false
set_option linter.unusedVariables false
set_option maxRecDepth 100000
namespace Go.Proofs.YtmebmfgmopdieaaGreatDoor
open Go.RowKit
namespace Ax
open Fl

def exB (a d : Int) : Bool := decide (a ≠ 0) || decide (downW d = upW d)
def spI (a lo b hi : Int) : Int := if (exB a lo && exB b hi) = true then 1 else 0
/-- A span, as a value. -/
def sv (x y : Nat) (e : Bool) : Value := .agg #[.float .f64 x, .float .f64 y, .bool e]

theorem span_any (a lo b hi : Int) (w : World) (l0 : -9223372036854775808 ≤ lo) (l1 : lo < 9223372036854775808) (h0 : -9223372036854775808 ≤ hi) (h1 : hi < 9223372036854775808) :
    Calls Tryz.prog 38 #[rv a lo b hi] w fun r w' => r = .returned (.int .i64 (spI a lo b hi)) ∧ Below w.heap.size w w' := by
  have HL := Lib.hid (fun w => exact36_any lo w l0 l1)
  have HH := Lib.hid (fun w => exact36_any hi w h0 h1)
  clear l0 l1 h0 h1
  unfold exI at HL HH
  have HX := Lib.hid (show spI a lo b hi = if (exB a lo && exB b hi) = true then 1 else 0 from rfl)
  unfold rv
  by_cases c1 : a = 0
  · by_cases c2 : downW lo = upW lo
    · simp only [c2, if_true] at HL
      by_cases c3 : b = 0
      · by_cases c4 : downW hi = upW hi
        · simp only [c4, if_true] at HH
          have e : spI a lo b hi = 1 := by rw [HX.out]; simp [exB, c2, c4]
          replace e := Lib.hid e
          clear HX c2 c4
          subst c1 c3
          go_enter Tryz.func38, Tryz.ntmps38
          go_wp2_with (first | (go_at_call 14; (first | with_reducible refine (HL.out _).mono ?_ | with_reducible refine (HH.out _).mono ?_); rintro _ w' ⟨rfl, rfl⟩))
          go_ret
          exact ⟨ri e.out.symm, ba (Below.refl _ _) _⟩
        · simp only [c4, if_false] at HH
          have e : spI a lo b hi = 0 := by rw [HX.out]; simp [exB, c1, c2, c3, c4]
          replace e := Lib.hid e
          clear HX c2 c4
          subst c1 c3
          go_enter Tryz.func38, Tryz.ntmps38
          go_wp2_with (first | (go_at_call 14; (first | with_reducible refine (HL.out _).mono ?_ | with_reducible refine (HH.out _).mono ?_); rintro _ w' ⟨rfl, rfl⟩))
          go_ret
          exact ⟨ri e.out.symm, ba (Below.refl _ _) _⟩
      · have t : (b == 0) = false := by rw [beq_eq_false_iff_ne]; exact c3
        have e : spI a lo b hi = 1 := by rw [HX.out]; simp [exB, c1, c2, c3]
        replace e := Lib.hid e
        clear HX c2 c3
        subst c1
        go_enter Tryz.func38, Tryz.ntmps38
        go_wp2_with (first | (go_at_call 14; (first | with_reducible refine (HL.out _).mono ?_ | with_reducible refine (HH.out _).mono ?_); rintro _ w' ⟨rfl, rfl⟩))
        go_ret
        exact ⟨ri e.out.symm, ba (Below.refl _ _) _⟩
    · simp only [c2, if_false] at HL
      have e : spI a lo b hi = 0 := by rw [HX.out]; simp [exB, c1, c2]
      replace e := Lib.hid e
      clear HX c2
      subst c1
      go_enter Tryz.func38, Tryz.ntmps38
      go_wp2_with (first | (go_at_call 14; (first | with_reducible refine (HL.out _).mono ?_ | with_reducible refine (HH.out _).mono ?_); rintro _ w' ⟨rfl, rfl⟩))
      go_ret
      exact ⟨ri e.out.symm, ba (Below.refl _ _) _⟩
  · have t0 : (a == 0) = false := by rw [beq_eq_false_iff_ne]; exact c1
    by_cases c3 : b = 0
    · by_cases c4 : downW hi = upW hi
      · simp only [c4, if_true] at HH
        have e : spI a lo b hi = 1 := by rw [HX.out]; simp [exB, c1, c4]
        replace e := Lib.hid e
        clear HX c1 c4
        subst c3
        go_enter Tryz.func38, Tryz.ntmps38
        go_wp2_with (first | (go_at_call 14; (first | with_reducible refine (HL.out _).mono ?_ | with_reducible refine (HH.out _).mono ?_); rintro _ w' ⟨rfl, rfl⟩))
        go_ret
        exact ⟨ri e.out.symm, ba (Below.refl _ _) _⟩
      · simp only [c4, if_false] at HH
        have e : spI a lo b hi = 0 := by rw [HX.out]; simp [exB, c3, c4]
        replace e := Lib.hid e
        clear HX c1 c4
        subst c3
        go_enter Tryz.func38, Tryz.ntmps38
        go_wp2_with (first | (go_at_call 14; (first | with_reducible refine (HL.out _).mono ?_ | with_reducible refine (HH.out _).mono ?_); rintro _ w' ⟨rfl, rfl⟩))
        go_ret
        exact ⟨ri e.out.symm, ba (Below.refl _ _) _⟩
    · have t : (b == 0) = false := by rw [beq_eq_false_iff_ne]; exact c3
      have e : spI a lo b hi = 1 := by rw [HX.out]; simp [exB, c1, c3]
      replace e := Lib.hid e
      clear HX c1 c3
      go_enter Tryz.func38, Tryz.ntmps38
      go_wp2_with fail
      go_ret
      exact ⟨ri e.out.symm, ba (Below.refl _ _) _⟩

@[go_sem] theorem run_store_float {P : Program} {w : World} {a : Addr} {m : Mode} (k : FloatKind) (n : Nat) : (store a (.float k n) m).run P w = stored P w a (.float k n) m := run_store P w a _ m rfl

theorem ar_cells {w W : World} {a lo b hi x y e : Value} {t t2 : TypeId} (h : Below ((w.alloc (.cells #[a, lo, b, hi] t)).alloc (.cells #[x, y, e] t2)).heap.size ((w.alloc (.cells #[a, lo, b, hi] t)).alloc (.cells #[x, y, e] t2)) W) :
    (W.cell? ⟨w.heap.size, 0, none⟩ = some a ∧ W.cell? ⟨w.heap.size, 1, none⟩ = some lo ∧ W.cell? ⟨w.heap.size, 2, none⟩ = some b ∧ W.cell? ⟨w.heap.size, 3, none⟩ = some hi) ∧
    (W.cell? ⟨w.heap.size + 1, 0, none⟩ = some x ∧ W.cell? ⟨w.heap.size + 1, 1, none⟩ = some y ∧ W.cell? ⟨w.heap.size + 1, 2, none⟩ = some e) ∧
    (W.frozen? ⟨w.heap.size + 1, 0, none⟩ = false ∧ W.frozen? ⟨w.heap.size + 1, 1, none⟩ = false ∧ W.frozen? ⟨w.heap.size + 1, 2, none⟩ = false) ∧ Below w.heap.size w W := by
  refine ⟨⟨?_, ?_, ?_, ?_⟩, ⟨?_, ?_, ?_⟩, ⟨?_, ?_, ?_⟩, bt (ba (ba (Below.refl _ _) _) _) h⟩
  all_goals first | (rw [h.cell (by first | (simp; done) | (simp; omega))]; simp [go_sem]; done) | (rw [h.frozen (by first | (simp; done) | (simp; omega))]; simp [go_sem]; done)

theorem ar_step {W w1 w2 : World} (h : Below W.heap.size W w1) (hb : Below w1.drew.heap.size w1.drew w2) : Below W.heap.size W w2 := h.drew.trans (hb.mono h.size)
theorem ar_step2 {W w1 w2 : World} (h : Below W.heap.size W w1) (hb : Below w1.heap.size w1 w2) : Below W.heap.size W w2 := h.trans (hb.mono h.size)

/-- axes.Run of a run that is refused. -/
theorem runNo_any (a lo b hi : Int) (w : World) (hr : rErr a lo b hi ≠ 0) :
    Calls Tryz.prog 7 #[rv a lo b hi] w fun r w' => r = .returned (.tuple #[sv 0 0 false, .int .i64 1]) ∧ Below w.heap.size w w' := by
  have HC := Lib.hid (fun w => runCheck_any a lo b hi w)
  have t : (rErr a lo b hi != 0) = true := by simpa using hr
  clear hr
  unfold rv at HC ⊢
  go_enter Tryz.func7, Tryz.ntmps7
  go_wp2_with fail
  refine (HC.out _).mono ?_; rintro _ w1 ⟨rfl, hb1⟩
  obtain ⟨-, ⟨z0, z1, z2⟩, ⟨f0, f1, f2⟩, hB⟩ := ar_cells hb1
  replace hB := Lib.hid hB
  clear hb1
  go_wp2_with fail
  refine bodyPost_ret (v := .tuple #[sv 0 0 false, .int .i64 1]) (by simp [results, Tryz.results7, go_sem, sv, *]) rfl ⟨rfl, ?_⟩
  exact bset (bset (bset hB.out (by simp) _) (by simp) _) (by simp) _

set_option maxHeartbeats 4000000 in
theorem runYes_any (a lo b hi : Int) (w : World) (hr : rErr a lo b hi = 0) (a0 : -128 ≤ a) (a1 : a < 128) (b0 : -128 ≤ b) (b1 : b < 128) (l0 : -9223372036854775808 ≤ lo) (l1 : lo < 9223372036854775808) (h0 : -9223372036854775808 ≤ hi) (h1 : hi < 9223372036854775808) :
    Calls Tryz.prog 7 #[rv a lo b hi] w fun r w' => r = .returned (.tuple #[sv (loW a lo) (hiW b hi) (exB a lo && exB b hi), .int .i64 0]) ∧ Below w.heap.size w w' := by
  have HC := Lib.hid (fun w => runCheck_any a lo b hi w)
  have HE1 := Lib.hid (fun w => exact_any lo w l0 l1)
  have HE2 := Lib.hid (fun w => exact_any hi w h0 h1)
  have HD := Lib.hid (fun w => numDown_any a lo w a0 a1 l0 l1)
  have HU := Lib.hid (fun w => numUp_any b hi w b0 b1 h0 h1)
  have t : (rErr a lo b hi != 0) = false := by simpa using hr
  clear hr a0 a1 b0 b1 l0 l1 h0 h1
  have HX := Lib.hid (show exB a lo = (decide (a ≠ 0) || decide (downW lo = upW lo)) from rfl)
  have HY := Lib.hid (show exB b hi = (decide (b ≠ 0) || decide (downW hi = upW hi)) from rfl)
  obtain ⟨X, hX⟩ : ∃ X, X = loW a lo := ⟨_, rfl⟩
  obtain ⟨Y, hY⟩ : ∃ Y, Y = hiW b hi := ⟨_, rfl⟩
  obtain ⟨ea, hea⟩ : ∃ x, x = decide (downW lo = upW lo) := ⟨_, rfl⟩
  obtain ⟨eb, heb⟩ : ∃ x, x = decide (downW hi = upW hi) := ⟨_, rfl⟩
  rw [← hX] at HD ⊢
  rw [← hY] at HU ⊢
  rw [← hea] at HE1 HX
  rw [← heb] at HE2 HY
  clear hX hY hea heb
  unfold rv at HC ⊢
  unfold ev at HD HU
  have four : ∃ e : Bool, e = (exB a lo && exB b hi) := ⟨_, rfl⟩
  obtain ⟨e, he⟩ := four
  rw [← he]
  replace he := Lib.hid he
  have hcase : (a = 0 ∨ (a != 0) = true) ∧ (b = 0 ∨ (b != 0) = true) := by
    constructor
    · by_cases c : a = 0
      · exact .inl c
      · exact .inr (by simpa using c)
    · by_cases c : b = 0
      · exact .inl c
      · exact .inr (by simpa using c)
  obtain ⟨ca, cb⟩ := hcase
  go_enter Tryz.func7, Tryz.ntmps7
  go_upto_region 3 with (go_at_call 27; refine (HC.out _).mono ?_; rintro _ w1 ⟨rfl, hb1⟩; obtain ⟨⟨q0, q1, q2, q3⟩, ⟨z0, z1, z2⟩, ⟨f0, f1, f2⟩, hB⟩ := ar_cells hb1)
  clear HC
  go_cut [4] (fun s4 wx => s4 = .bool e ∧ wx = w1)
  case first =>
    clear hb1 hB z0 z1 z2 f0 f1 f2
    rcases ca with rfl | ca <;> rcases cb with rfl | cb <;> cases ea <;> cases eb
    all_goals
      go_wp2_with (go_at_call 28; (first | with_reducible refine (HE1.out _).mono ?_ | with_reducible refine (HE2.out _).mono ?_); rintro _ w' ⟨rfl, rfl⟩)
      go_meet
      refine ⟨?_, rfl⟩
      rw [he.out, HX.out, HY.out]
      simp_all
  case rest =>
    obtain ⟨rfl, rfl⟩ := hcut
    have hH := Lib.hid hb1
    clear hB hb1
    go_wp2_with fail
    go_region_with (first
      | (go_at_call 29; with_reducible refine (HD.out _).mono ?_; rintro _ w2 ⟨rfl, hb2⟩; (have hH2 := Lib.hid (ar_step hH.out hb2)); (obtain ⟨⟨q0, q1, q2, q3⟩, ⟨z0, z1, z2⟩, ⟨f0, f1, f2⟩, hB2⟩ := ar_cells hH2.out))
      | (go_at_call 29; with_reducible refine (HU.out _).mono ?_; rintro _ w3 ⟨rfl, hb3⟩; (have hH3 := Lib.hid (ar_step2 hH2.out hb3)); (obtain ⟨⟨q0, q1, q2, q3⟩, ⟨z0, z1, z2⟩, ⟨f0, f1, f2⟩, hB3⟩ := ar_cells hH3.out)))
    all_goals
      replace hB3 := Lib.hid hB3
      clear hH hH2 hH3 HD HU HE1 HE2 HX HY hb2 hb3 hB2 he q0 q1 q2 q3
      go_wp2_with fail
      refine bodyPost_ret (v := .tuple #[sv X Y e, .int .i64 0]) (by simp [results, Tryz.results7, go_sem, sv, *]) rfl ⟨rfl, ?_⟩
      exact bset (bset (bset hB3.out (by simp) _) (by simp) _) (by simp) _
end Ax
end Go.Proofs.YtmebmfgmopdieaaGreatDoor

/-! The plain facts on spans of right runs; THE WALKS of the statements' same and right, and of AxesRun. -/
set_option linter.unusedSimpArgs false
set_option linter.unusedVariables false
set_option maxRecDepth 100000
namespace Go.Proofs.YtmebmfgmopdieaaGreatDoor
open Go.RowKit
namespace Ax
open Fl

theorem natAbs_U (n : Int) : ((n.natAbs * U : Nat) : Int) = if n < 0 then -(n * (U : Int)) else n * (U : Int) := by
  rw [Int.natCast_mul]
  by_cases c : n < 0
  · rw [if_pos c, show ((n.natAbs : Nat) : Int) = -n by omega, Int.neg_mul]
  · rw [if_neg c, show ((n.natAbs : Nat) : Int) = n by omega]

theorem upr_ge (v : Nat) : v ≤ mg (upr v) := by
  unfold upr
  have := lt_dn v
  split <;> omega

theorem downW_spec {n : Int} (l0 : -9223372036854775808 ≤ n) (l1 : n < 9223372036854775808) : downW n < 18446744073709551616 ∧ nan (downW n) = false ∧ vl (downW n) ≤ n * (U : Int) := by
  have h1 := upr_le l0 l1
  have h2 := dn_le_inf l0 l1
  have h3 := upr_ge (n.natAbs * U)
  have h4 := dn_le (n.natAbs * U)
  have h5 := natAbs_U n
  unfold downW
  by_cases c : n < 0
  · simp only [c, if_true] at h5 ⊢
    refine ⟨wd_lt (by omega), nan_wd (by omega), ?_⟩
    rw [vl_wd (by omega)]; simp; omega
  · simp only [c, if_false] at h5 ⊢
    have hw : dn (n.natAbs * U) = wd false (dn (n.natAbs * U)) := by unfold wd; simp
    rw [hw]
    refine ⟨wd_lt (by omega), nan_wd (by omega), ?_⟩
    rw [vl_wd (by omega)]; simp; omega
theorem upW_spec {n : Int} (l0 : -9223372036854775808 ≤ n) (l1 : n < 9223372036854775808) : upW n < 18446744073709551616 ∧ nan (upW n) = false ∧ n * (U : Int) ≤ vl (upW n) := by
  have h1 := upr_le l0 l1
  have h2 := dn_le_inf l0 l1
  have h3 := upr_ge (n.natAbs * U)
  have h4 := dn_le (n.natAbs * U)
  have h5 := natAbs_U n
  unfold upW
  by_cases c : n < 0
  · simp only [c, if_true] at h5 ⊢
    refine ⟨wd_lt (by omega), nan_wd (by omega), ?_⟩
    rw [vl_wd (by omega)]; simp; omega
  · simp only [c, if_false] at h5 ⊢
    have hw : upr (n.natAbs * U) = wd false (upr (n.natAbs * U)) := by unfold wd; simp
    rw [hw]
    refine ⟨wd_lt (by omega), nan_wd (by omega), ?_⟩
    rw [vl_wd (by omega)]; simp; omega

theorem infW_spec (a : Int) : infW a < 18446744073709551616 ∧ nan (infW a) = false ∧ (a < 0 → ∀ y, y < 18446744073709551616 → nan y = false → vl (infW a) ≤ vl y) ∧ (¬ a < 0 → ∀ y, y < 18446744073709551616 → nan y = false → vl y ≤ vl (infW a)) := by
  have key : ∀ y, y < 18446744073709551616 → nan y = false → mg (y % 9223372036854775808) ≤ mg 9218868437227405312 := by
    intro y hy hn
    refine mg_le.2 ?_
    unfold nan at hn; simpa using hn
  unfold infW
  by_cases c : a < 0
  · rw [if_pos c]
    refine ⟨by decide, by decide, fun _ y hy hn => ?_, fun h => absurd c h⟩
    have := key y hy hn
    have e : vl 18442240474082181120 = -(mg 9218868437227405312 : Int) := by rw [vl_sg (by decide), show sg 18442240474082181120 = true by decide]; rfl
    rw [e, vl_sg hy]
    split <;> omega
  · rw [if_neg c]
    refine ⟨by decide, by decide, fun h => absurd h c, fun _ y hy hn => ?_⟩
    have := key y hy hn
    have e : vl 9218868437227405312 = (mg 9218868437227405312 : Int) := by rw [vl_sg (by decide), show sg 9218868437227405312 = false by decide]; rfl
    rw [e, vl_sg hy]
    split <;> omega

theorem right_spec {a lo b hi : Int} (hr : rErr a lo b hi = 0) (l0 : -9223372036854775808 ≤ lo) (l1 : lo < 9223372036854775808) (h0 : -9223372036854775808 ≤ hi) (h1 : hi < 9223372036854775808) :
    loW a lo < 18446744073709551616 ∧ nan (loW a lo) = false ∧ hiW b hi < 18446744073709551616 ∧ nan (hiW b hi) = false ∧ vl (loW a lo) ≤ vl (hiW b hi) := by
  obtain ⟨d1, d2, d3⟩ := downW_spec l0 l1
  obtain ⟨u1, u2, u3⟩ := upW_spec h0 h1
  obtain ⟨i1, i2, i3, i4⟩ := infW_spec a
  obtain ⟨j1, j2, j3, j4⟩ := infW_spec b
  have hU := U_posI
  unfold rErr at hr
  split at hr
  · omega
  rename_i c1
  split at hr
  · omega
  rename_i c2
  split at hr
  · omega
  rename_i c3
  unfold loW hiW
  have e1 : eErr a lo = 0 := by omega
  have e2 : eErr b hi = 0 := by omega
  have v1 := eErr_vals e1
  have v2 := eErr_vals e2
  by_cases ca : a = 0
  · by_cases cb : b = 0
    · rw [if_pos ca, if_pos cb]
      refine ⟨d1, d2, u1, u2, ?_⟩
      have hle : lo ≤ hi := by
        unfold ecmp cmpI at c3
        subst ca cb
        simp at c3
        split at c3
        · omega
        · split at c3 <;> omega
      have := Int.mul_le_mul_of_nonneg_right hle (Int.le_of_lt hU)
      omega
    · rw [if_pos ca, if_neg cb]
      exact ⟨d1, d2, j1, j2, j4 (by omega) _ d1 d2⟩
  · by_cases cb : b = 0
    · rw [if_neg ca, if_pos cb]
      exact ⟨i1, i2, u1, u2, i3 (by omega) _ u1 u2⟩
    · rw [if_neg ca, if_neg cb]
      exact ⟨i1, i2, j1, j2, i3 (by omega) _ j1 j2⟩

theorem msign_any (x : Nat) (w : World) (hx : x < 18446744073709551616) : Calls Tryz.prog 23 #[.float .f64 x] w fun r w' => r = .returned (.bool (sg x)) ∧ w = w' := by
  unfold sg
  by_cases c : 9223372036854775808 ≤ x
  · have e : IntKind.i64.wrap (x : Int) = (x : Int) - 18446744073709551616 := by rw [IntKind.wrap_i64]; omega
    have e2 : (x : Int) - 18446744073709551616 < 0 := by omega
    rw [decide_eq_true c]
    clear c hx
    go_enter Tryz.func23, Tryz.ntmps23
    go_wp2
    go_ret
    exact ⟨rfl, rfl⟩
  · have e : IntKind.i64.wrap (x : Int) = (x : Int) := by rw [IntKind.wrap_i64]; omega
    have e2 : ¬ (x : Int) < 0 := by omega
    rw [decide_eq_false c]
    clear c hx
    go_enter Tryz.func23, Tryz.ntmps23
    go_wp2
    go_ret
    exact ⟨rfl, rfl⟩

theorem same_self (x : Nat) (w : World) (hx : x < 18446744073709551616) (hn : nan x = false) :
    Calls Tryz.prog 18 #[.float .f64 x, .float .f64 x] w fun r w' => r = .returned (.bool true) ∧ w = w' := by
  have he := eq_iff hx hx hn hn
  rw [decide_eq_true rfl] at he
  have hne := ne_self hx
  rw [hn] at hne
  have HS := Lib.hid (fun w => msign_any x w hx)
  clear hx hn
  go_enter Tryz.func18, Tryz.ntmps18
  go_wp2_with (go_at_call 23; refine (HS.out _).mono ?_; rintro _ w' ⟨rfl, rfl⟩)
  go_ret
  exact ⟨rfl, rfl⟩
end Ax
end Go.Proofs.YtmebmfgmopdieaaGreatDoor

/-! THE WALKS of the statements' right, and of AxesRun. -/
set_option linter.unusedSimpArgs false
set_option linter.unusedVariables false
set_option maxRecDepth 100000
namespace Go.Proofs.YtmebmfgmopdieaaGreatDoor
open Go.RowKit
namespace Ax
open Fl

theorem rt_cells {w W : World} {a lo b hi x y e : Value} {t t2 : TypeId} (h : Below ((w.alloc (.cells #[x, y, e] t2)).alloc (.cells #[a, lo, b, hi] t)).heap.size ((w.alloc (.cells #[x, y, e] t2)).alloc (.cells #[a, lo, b, hi] t)) W) :
    (W.cell? ⟨w.heap.size + 1, 0, none⟩ = some a ∧ W.cell? ⟨w.heap.size + 1, 1, none⟩ = some lo ∧ W.cell? ⟨w.heap.size + 1, 2, none⟩ = some b ∧ W.cell? ⟨w.heap.size + 1, 3, none⟩ = some hi) ∧
    (W.cell? ⟨w.heap.size, 0, none⟩ = some x ∧ W.cell? ⟨w.heap.size, 1, none⟩ = some y ∧ W.cell? ⟨w.heap.size, 2, none⟩ = some e) ∧ Below w.heap.size w W := by
  refine ⟨⟨?_, ?_, ?_, ?_⟩, ⟨?_, ?_, ?_⟩, bt (ba (ba (Below.refl _ _) _) _) h⟩
  all_goals (rw [h.cell (by first | (simp; done) | (simp; omega))]; simp [go_sem]; done)

theorem seven0 (w : World) (a lo b hi x y e : Value) (t t2 : TypeId) : ∀ W0, W0 = (w.alloc (.cells #[x, y, e] t2)).alloc (.cells #[a, lo, b, hi] t) →
    W0.cell? ⟨w.heap.size + 1, 0, none⟩ = some a ∧ W0.cell? ⟨w.heap.size + 1, 1, none⟩ = some lo ∧ W0.cell? ⟨w.heap.size + 1, 2, none⟩ = some b ∧ W0.cell? ⟨w.heap.size + 1, 3, none⟩ = some hi ∧ W0.cell? ⟨w.heap.size, 0, none⟩ = some x ∧ W0.cell? ⟨w.heap.size, 1, none⟩ = some y ∧ W0.cell? ⟨w.heap.size, 2, none⟩ = some e ∧ Below w.heap.size w W0 := by
  rintro W0 rfl
  refine ⟨?_, ?_, ?_, ?_, ?_, ?_, ?_, ba (ba (Below.refl _ _) _) _⟩ <;> simp [go_sem]
theorem later7 {W0 w1 w2 : World} {p0 p1 p2 p3 p4 p5 p6 : Addr} {v0 v1 v2 v3 v4 v5 v6 : Value} (h : w1.cell? p0 = some v0 ∧ w1.cell? p1 = some v1 ∧ w1.cell? p2 = some v2 ∧ w1.cell? p3 = some v3 ∧ w1.cell? p4 = some v4 ∧ w1.cell? p5 = some v5 ∧ w1.cell? p6 = some v6 ∧ Below W0.heap.size W0 w1) (hb : Below w1.heap.size w1 w2) :
    w2.cell? p0 = some v0 ∧ w2.cell? p1 = some v1 ∧ w2.cell? p2 = some v2 ∧ w2.cell? p3 = some v3 ∧ w2.cell? p4 = some v4 ∧ w2.cell? p5 = some v5 ∧ w2.cell? p6 = some v6 ∧ Below W0.heap.size W0 w2 :=
  have g : ∀ {p : Addr} {v : Value}, w1.cell? p = some v → w2.cell? p = some v := fun {p v} hc => (hb.cell (World.block_lt_of_cell? _ _ hc)).trans hc
  ⟨g h.1, g h.2.1, g h.2.2.1, g h.2.2.2.1, g h.2.2.2.2.1, g h.2.2.2.2.2.1, g h.2.2.2.2.2.2.1, bt h.2.2.2.2.2.2.2 hb⟩

set_option maxHeartbeats 2000000 in
theorem right_any (a lo b hi : Int) (x y : Nat) (e : Bool) (w : World) (hx : x = loW a lo) (hy : y = hiW b hi) (he : e = (exB a lo && exB b hi)) (hr : rErr a lo b hi = 0) (l0 : -9223372036854775808 ≤ lo) (l1 : lo < 9223372036854775808) (h0 : -9223372036854775808 ≤ hi) (h1 : hi < 9223372036854775808) :
    Calls Tryz.prog 10 #[sv x y e, rv a lo b hi] w fun r w' => r = .returned (.bool true) ∧ Below w.heap.size w w' := by
  obtain ⟨r1, r2, r3, r4, r5⟩ := right_spec hr l0 l1 h0 h1
  have HA := Lib.hid (fun w => rlo_any a lo w l0 l1)
  have HB := Lib.hid (fun w => rhi_any b hi w h0 h1)
  have HS := Lib.hid (fun w => span_any a lo b hi w l0 l1 h0 h1)
  have HX := Lib.hid (fun w => same_self x w (by rw [hx]; exact r1) (by rw [hx]; exact r2))
  have HY := Lib.hid (fun w => same_self y w (by rw [hy]; exact r3) (by rw [hy]; exact r4))
  rw [← hx] at HA
  rw [← hy] at HB
  have hsp : spI a lo b hi = if e = true then 1 else 0 := by rw [he]; rfl
  rw [hsp] at HS
  clear hsp hx hy he hr l0 l1 h0 h1 r1 r2 r3 r4 r5
  unfold rv at HS ⊢
  unfold ev at HA HB
  unfold sv
  cases e
  · simp only [if_true, Bool.false_eq_true, if_false] at HS
    go_enter Tryz.func10, Tryz.ntmps10
    go_wp2_with fail
    have hh := seven0 w (.int .i8 a) (.int .i64 lo) (.int .i8 b) (.int .i64 hi) (.float .f64 x) (.float .f64 y) (.bool false) 26 29 _ rfl
    go_region_held3 (fun w' => w'.cell? ⟨w.heap.size + 1, 0, none⟩ = some (.int .i8 a) ∧ w'.cell? ⟨w.heap.size + 1, 1, none⟩ = some (.int .i64 lo) ∧ w'.cell? ⟨w.heap.size + 1, 2, none⟩ = some (.int .i8 b) ∧ w'.cell? ⟨w.heap.size + 1, 3, none⟩ = some (.int .i64 hi) ∧ w'.cell? ⟨w.heap.size, 0, none⟩ = some (.float .f64 x) ∧ w'.cell? ⟨w.heap.size, 1, none⟩ = some (.float .f64 y) ∧ w'.cell? ⟨w.heap.size, 2, none⟩ = some (.bool false) ∧ Below w.heap.size w w') (first | (exact later7 hh (Below.refl _ _).drew) | exact later7 (later7 hh (Below.refl _ _).drew) hb2 | exact later7 ‹_ ∧ _ ∧ _ ∧ _ ∧ _ ∧ _ ∧ _ ∧ Below _ _ _› hb2 | assumption) ((first | (go_at_call 36; with_reducible refine (HA.out _).mono ?_; rintro _ w2 ⟨rfl, hb2⟩) | (go_at_call 37; with_reducible refine (HB.out _).mono ?_; rintro _ w2 ⟨rfl, hb2⟩) | (go_at_call 38; with_reducible refine (HS.out _).mono ?_; rintro _ w2 ⟨rfl, hb2⟩) | (go_at_call 18; (first | with_reducible refine (HX.out _).mono ?_ | with_reducible refine (HY.out _).mono ?_); rintro _ w' ⟨rfl, rfl⟩)))
    rename_i hk
    have hB := Lib.hid hk.2.2.2.2.2.2.2
    clear hk hh
    go_wp2
    go_ret
    exact ⟨rfl, hB.out⟩
  · simp only [if_true, Bool.false_eq_true, if_false] at HS
    go_enter Tryz.func10, Tryz.ntmps10
    go_wp2_with fail
    have hh := seven0 w (.int .i8 a) (.int .i64 lo) (.int .i8 b) (.int .i64 hi) (.float .f64 x) (.float .f64 y) (.bool true) 26 29 _ rfl
    go_region_held3 (fun w' => w'.cell? ⟨w.heap.size + 1, 0, none⟩ = some (.int .i8 a) ∧ w'.cell? ⟨w.heap.size + 1, 1, none⟩ = some (.int .i64 lo) ∧ w'.cell? ⟨w.heap.size + 1, 2, none⟩ = some (.int .i8 b) ∧ w'.cell? ⟨w.heap.size + 1, 3, none⟩ = some (.int .i64 hi) ∧ w'.cell? ⟨w.heap.size, 0, none⟩ = some (.float .f64 x) ∧ w'.cell? ⟨w.heap.size, 1, none⟩ = some (.float .f64 y) ∧ w'.cell? ⟨w.heap.size, 2, none⟩ = some (.bool true) ∧ Below w.heap.size w w') (first | (exact later7 hh (Below.refl _ _).drew) | exact later7 (later7 hh (Below.refl _ _).drew) hb2 | exact later7 ‹_ ∧ _ ∧ _ ∧ _ ∧ _ ∧ _ ∧ _ ∧ Below _ _ _› hb2 | assumption) ((first | (go_at_call 36; with_reducible refine (HA.out _).mono ?_; rintro _ w2 ⟨rfl, hb2⟩) | (go_at_call 37; with_reducible refine (HB.out _).mono ?_; rintro _ w2 ⟨rfl, hb2⟩) | (go_at_call 38; with_reducible refine (HS.out _).mono ?_; rintro _ w2 ⟨rfl, hb2⟩) | (go_at_call 18; (first | with_reducible refine (HX.out _).mono ?_ | with_reducible refine (HY.out _).mono ?_); rintro _ w' ⟨rfl, rfl⟩)))
    rename_i hk
    have hB := Lib.hid hk.2.2.2.2.2.2.2
    clear hk hh
    go_wp2
    go_ret
    exact ⟨rfl, hB.out⟩
end Ax
end Go.Proofs.YtmebmfgmopdieaaGreatDoor

/-! THE WALK of AxesRun. -/
set_option linter.unusedSimpArgs false
set_option linter.unusedVariables false
set_option maxRecDepth 100000
namespace Go.Proofs.YtmebmfgmopdieaaGreatDoor
open Go.RowKit
namespace Ax
open Fl

theorem sp_cells {w W : World} {x y e : Value} {t : TypeId} (h : Below (w.alloc (.cells #[x, y, e] t)).heap.size (w.alloc (.cells #[x, y, e] t)) W) :
    W.cell? ⟨w.heap.size, 0, none⟩ = some x ∧ W.cell? ⟨w.heap.size, 1, none⟩ = some y ∧ W.cell? ⟨w.heap.size, 2, none⟩ = some e := by
  refine ⟨?_, ?_, ?_⟩
  all_goals (rw [h.cell (by simp)]; simp [go_sem]; done)

theorem lawRun_no (a lo b hi : Int) (w : World) (hr : rErr a lo b hi ≠ 0)
    (HL : ∀ W, Below w.heap.size w W → Calls Tryz.prog 9 #[] W fun r w' => r = .returned (.bool true) ∧ Below W.heap.size W w') :
    Calls Tryz.prog 3 #[rv a lo b hi] w fun r w' => r = .returned (.bool true) ∧ Below w.heap.size w w' := by
  have HR := Lib.hid (fun w => runNo_any a lo b hi w hr)
  have HC := Lib.hid (fun w => rcheck9_any a lo b hi w)
  have t : (rErr a lo b hi != 0) = true := by simpa using hr
  replace HL := Lib.hid HL
  clear hr
  unfold rv at HR HC ⊢
  unfold sv at HR
  go_enter Tryz.func3, Tryz.ntmps3
  go_wp2_with fail
  refine (HR.out _).mono ?_; rintro _ w1 ⟨rfl, hb1⟩
  obtain ⟨q0, q1, q2, q3⟩ := run_cells hb1
  have hB := Lib.hid (bt (ba (Below.refl _ _) _) hb1)
  have hn := World.block_lt_of_cell? _ _ q0
  go_wp2_with fail
  refine (HC.out _).mono ?_; rintro _ w2 ⟨rfl, hb2⟩
  obtain ⟨z0, z1, z2⟩ := sp_cells hb2
  replace hB := Lib.hid (bt (ba hB.out _) hb2)
  clear q0 q1 q2 q3 hb1 hb2 hn HR HC
  have hq : ∀ w, (Op.equalIn 9999 27 (Value.float .f64 0) (Value.float .f64 0)).run Tryz.prog w = .ok true w := fun w => by kernel_rfl
  go_wp2_with (go_at_call 9; refine (HL.out _ hB.out).mono ?_; rintro _ w3 ⟨rfl, hb3⟩; replace hB := Lib.hid (bt hB.out hb3))
  go_ret
  exact ⟨rfl, hB.out⟩

theorem lawRun_yes (a lo b hi : Int) (w : World) (hr : rErr a lo b hi = 0) (a0 : -128 ≤ a) (a1 : a < 128) (b0 : -128 ≤ b) (b1 : b < 128) (l0 : -9223372036854775808 ≤ lo) (l1 : lo < 9223372036854775808) (h0 : -9223372036854775808 ≤ hi) (h1 : hi < 9223372036854775808)
    (HL : ∀ W, Below w.heap.size w W → Calls Tryz.prog 9 #[] W fun r w' => r = .returned (.bool true) ∧ Below W.heap.size W w') :
    Calls Tryz.prog 3 #[rv a lo b hi] w fun r w' => r = .returned (.bool true) ∧ Below w.heap.size w w' := by
  have HR := Lib.hid (fun w => runYes_any a lo b hi w hr a0 a1 b0 b1 l0 l1 h0 h1)
  have HC := Lib.hid (fun w => rcheck9_any a lo b hi w)
  have t : (rErr a lo b hi != 0) = false := by simpa using hr
  replace HL := Lib.hid HL
  obtain ⟨x, hx⟩ : ∃ x, x = loW a lo := ⟨_, rfl⟩
  obtain ⟨y, hy⟩ : ∃ y, y = hiW b hi := ⟨_, rfl⟩
  obtain ⟨e, he⟩ : ∃ e, e = (exB a lo && exB b hi) := ⟨_, rfl⟩
  have HT := Lib.hid (fun w => right_any a lo b hi x y e w hx hy he hr l0 l1 h0 h1)
  obtain ⟨r1, r2, r3, r4, r5⟩ := right_spec hr l0 l1 h0 h1
  rw [← hx] at r1 r2 r5 HR
  rw [← hy] at r3 r4 r5 HR
  rw [← he] at HR
  have hle := le_iff r1 r3 r2 r4
  rw [decide_eq_true r5] at hle
  clear hr hx hy he r1 r2 r3 r4 r5 a0 a1 b0 b1 l0 l1 h0 h1
  unfold rv at HR HC HT ⊢
  unfold sv at HR HT
  go_enter Tryz.func3, Tryz.ntmps3
  go_wp2_with fail
  refine (HR.out _).mono ?_; rintro _ w1 ⟨rfl, hb1⟩
  obtain ⟨q0, q1, q2, q3⟩ := run_cells hb1
  have hB := Lib.hid (bt (ba (Below.refl _ _) _) hb1)
  have hn := World.block_lt_of_cell? _ _ q0
  go_wp2_with fail
  refine (HC.out _).mono ?_; rintro _ w2 ⟨rfl, hb2⟩
  obtain ⟨z0, z1, z2⟩ := sp_cells hb2
  have g : ∀ {p : Addr} {v : Value}, w1.cell? p = some v → w2.cell? p = some v := fun {p v} hc => (hb2.cell (Nat.lt_of_lt_of_le (World.block_lt_of_cell? _ _ hc) (by simp))).trans ((Below.alloc (Below.refl _ _) (Nat.le_refl _) _).cell (World.block_lt_of_cell? _ _ hc) |>.trans hc)
  replace q0 := g q0; replace q1 := g q1; replace q2 := g q2; replace q3 := g q3
  replace hB := Lib.hid (bt (ba hB.out _) hb2)
  clear g hb1 hb2 hn HR HC
  go_wp2_with fail
  refine (HT.out _).mono ?_; rintro _ w3 ⟨rfl, hb3⟩
  replace z0 := (hb3.cell (World.block_lt_of_cell? _ _ z0)).trans z0
  replace z1 := (hb3.cell (World.block_lt_of_cell? _ _ z1)).trans z1
  replace z2 := (hb3.cell (World.block_lt_of_cell? _ _ z2)).trans z2
  replace hB := Lib.hid (bt hB.out hb3)
  clear q0 q1 q2 q3 hb3 HT
  go_wp2_with (go_at_call 9; refine (HL.out _ hB.out).mono ?_; rintro _ w4 ⟨rfl, hb4⟩; replace hB := Lib.hid (bt hB.out hb4))
  go_ret
  exact ⟨rfl, hB.out⟩

theorem lawRun_any (a lo b hi : Int) (w : World) (a0 : -128 ≤ a) (a1 : a < 128) (b0 : -128 ≤ b) (b1 : b < 128) (l0 : -9223372036854775808 ≤ lo) (l1 : lo < 9223372036854775808) (h0 : -9223372036854775808 ≤ hi) (h1 : hi < 9223372036854775808)
    (HL : ∀ W, Below w.heap.size w W → Calls Tryz.prog 9 #[] W fun r w' => r = .returned (.bool true) ∧ Below W.heap.size W w') :
    Calls Tryz.prog 3 #[rv a lo b hi] w fun r w' => r = .returned (.bool true) ∧ Below w.heap.size w w' := by
  by_cases hr : rErr a lo b hi = 0
  · exact lawRun_yes a lo b hi w hr a0 a1 b0 b1 l0 l1 h0 h1 HL
  · exact lawRun_no a lo b hi w hr HL
end Ax
end Go.Proofs.YtmebmfgmopdieaaGreatDoor

