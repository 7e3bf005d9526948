/- THE WALKS of axes.Run and of the reference's Span. -/
import Derived.Test.YtmebmfgmopdieaaGreatDoorAxLaw1
import Derived.Deep.DeepCutAuto
set_option linter.unusedSimpArgs false
set_option linter.unusedVariables false
set_option maxRecDepth 100000
namespace Go.Proofs.YtmebmfgmopdieaaGreatDoor
open Go.RowKit
namespace Ax
open Fl

def exB (a d : Int) : Bool := decide (a ≠ 0) || decide (downW d = upW d)
def spI (a lo b hi : Int) : Int := if (exB a lo && exB b hi) = true then 1 else 0
/-- A span, as a value. -/
def sv (x y : Nat) (e : Bool) : Value := .agg #[.float .f64 x, .float .f64 y, .bool e]

theorem span_any (a lo b hi : Int) (w : World) (l0 : -9223372036854775808 ≤ lo) (l1 : lo < 9223372036854775808) (h0 : -9223372036854775808 ≤ hi) (h1 : hi < 9223372036854775808) :
    Calls Tryz.prog 38 #[rv a lo b hi] w fun r w' => r = .returned (.int .i64 (spI a lo b hi)) ∧ Below w.heap.size w w' := by
  have HL := Lib.hid (fun w => exact36_any lo w l0 l1)
  have HH := Lib.hid (fun w => exact36_any hi w h0 h1)
  clear l0 l1 h0 h1
  unfold exI at HL HH
  have HX := Lib.hid (show spI a lo b hi = if (exB a lo && exB b hi) = true then 1 else 0 from rfl)
  unfold rv
  by_cases c1 : a = 0
  · by_cases c2 : downW lo = upW lo
    · simp only [c2, if_true] at HL
      by_cases c3 : b = 0
      · by_cases c4 : downW hi = upW hi
        · simp only [c4, if_true] at HH
          have e : spI a lo b hi = 1 := by rw [HX.out]; simp [exB, c2, c4]
          replace e := Lib.hid e
          clear HX c2 c4
          subst c1 c3
          go_enter Tryz.func38, Tryz.ntmps38
          go_wp2_with (first | (go_at_call 14; (first | with_reducible refine (HL.out _).mono ?_ | with_reducible refine (HH.out _).mono ?_); rintro _ w' ⟨rfl, rfl⟩))
          go_ret
          exact ⟨ri e.out.symm, ba (Below.refl _ _) _⟩
        · simp only [c4, if_false] at HH
          have e : spI a lo b hi = 0 := by rw [HX.out]; simp [exB, c1, c2, c3, c4]
          replace e := Lib.hid e
          clear HX c2 c4
          subst c1 c3
          go_enter Tryz.func38, Tryz.ntmps38
          go_wp2_with (first | (go_at_call 14; (first | with_reducible refine (HL.out _).mono ?_ | with_reducible refine (HH.out _).mono ?_); rintro _ w' ⟨rfl, rfl⟩))
          go_ret
          exact ⟨ri e.out.symm, ba (Below.refl _ _) _⟩
      · have t : (b == 0) = false := by rw [beq_eq_false_iff_ne]; exact c3
        have e : spI a lo b hi = 1 := by rw [HX.out]; simp [exB, c1, c2, c3]
        replace e := Lib.hid e
        clear HX c2 c3
        subst c1
        go_enter Tryz.func38, Tryz.ntmps38
        go_wp2_with (first | (go_at_call 14; (first | with_reducible refine (HL.out _).mono ?_ | with_reducible refine (HH.out _).mono ?_); rintro _ w' ⟨rfl, rfl⟩))
        go_ret
        exact ⟨ri e.out.symm, ba (Below.refl _ _) _⟩
    · simp only [c2, if_false] at HL
      have e : spI a lo b hi = 0 := by rw [HX.out]; simp [exB, c1, c2]
      replace e := Lib.hid e
      clear HX c2
      subst c1
      go_enter Tryz.func38, Tryz.ntmps38
      go_wp2_with (first | (go_at_call 14; (first | with_reducible refine (HL.out _).mono ?_ | with_reducible refine (HH.out _).mono ?_); rintro _ w' ⟨rfl, rfl⟩))
      go_ret
      exact ⟨ri e.out.symm, ba (Below.refl _ _) _⟩
  · have t0 : (a == 0) = false := by rw [beq_eq_false_iff_ne]; exact c1
    by_cases c3 : b = 0
    · by_cases c4 : downW hi = upW hi
      · simp only [c4, if_true] at HH
        have e : spI a lo b hi = 1 := by rw [HX.out]; simp [exB, c1, c4]
        replace e := Lib.hid e
        clear HX c1 c4
        subst c3
        go_enter Tryz.func38, Tryz.ntmps38
        go_wp2_with (first | (go_at_call 14; (first | with_reducible refine (HL.out _).mono ?_ | with_reducible refine (HH.out _).mono ?_); rintro _ w' ⟨rfl, rfl⟩))
        go_ret
        exact ⟨ri e.out.symm, ba (Below.refl _ _) _⟩
      · simp only [c4, if_false] at HH
        have e : spI a lo b hi = 0 := by rw [HX.out]; simp [exB, c3, c4]
        replace e := Lib.hid e
        clear HX c1 c4
        subst c3
        go_enter Tryz.func38, Tryz.ntmps38
        go_wp2_with (first | (go_at_call 14; (first | with_reducible refine (HL.out _).mono ?_ | with_reducible refine (HH.out _).mono ?_); rintro _ w' ⟨rfl, rfl⟩))
        go_ret
        exact ⟨ri e.out.symm, ba (Below.refl _ _) _⟩
    · have t : (b == 0) = false := by rw [beq_eq_false_iff_ne]; exact c3
      have e : spI a lo b hi = 1 := by rw [HX.out]; simp [exB, c1, c3]
      replace e := Lib.hid e
      clear HX c1 c3
      go_enter Tryz.func38, Tryz.ntmps38
      go_wp2_with fail
      go_ret
      exact ⟨ri e.out.symm, ba (Below.refl _ _) _⟩

@[go_sem] theorem run_store_float {P : Program} {w : World} {a : Addr} {m : Mode} (k : FloatKind) (n : Nat) : (store a (.float k n) m).run P w = stored P w a (.float k n) m := run_store P w a _ m rfl

theorem ar_cells {w W : World} {a lo b hi x y e : Value} {t t2 : TypeId} (h : Below ((w.alloc (.cells #[a, lo, b, hi] t)).alloc (.cells #[x, y, e] t2)).heap.size ((w.alloc (.cells #[a, lo, b, hi] t)).alloc (.cells #[x, y, e] t2)) W) :
    (W.cell? ⟨w.heap.size, 0, none⟩ = some a ∧ W.cell? ⟨w.heap.size, 1, none⟩ = some lo ∧ W.cell? ⟨w.heap.size, 2, none⟩ = some b ∧ W.cell? ⟨w.heap.size, 3, none⟩ = some hi) ∧
    (W.cell? ⟨w.heap.size + 1, 0, none⟩ = some x ∧ W.cell? ⟨w.heap.size + 1, 1, none⟩ = some y ∧ W.cell? ⟨w.heap.size + 1, 2, none⟩ = some e) ∧
    (W.frozen? ⟨w.heap.size + 1, 0, none⟩ = false ∧ W.frozen? ⟨w.heap.size + 1, 1, none⟩ = false ∧ W.frozen? ⟨w.heap.size + 1, 2, none⟩ = false) ∧ Below w.heap.size w W := by
  refine ⟨⟨?_, ?_, ?_, ?_⟩, ⟨?_, ?_, ?_⟩, ⟨?_, ?_, ?_⟩, bt (ba (ba (Below.refl _ _) _) _) h⟩
  all_goals first | (rw [h.cell (by first | (simp; done) | (simp; omega))]; simp [go_sem]; done) | (rw [h.frozen (by first | (simp; done) | (simp; omega))]; simp [go_sem]; done)

theorem ar_step {W w1 w2 : World} (h : Below W.heap.size W w1) (hb : Below w1.drew.heap.size w1.drew w2) : Below W.heap.size W w2 := h.drew.trans (hb.mono h.size)
theorem ar_step2 {W w1 w2 : World} (h : Below W.heap.size W w1) (hb : Below w1.heap.size w1 w2) : Below W.heap.size W w2 := h.trans (hb.mono h.size)

/-- axes.Run of a run that is refused. -/
theorem runNo_any (a lo b hi : Int) (w : World) (hr : rErr a lo b hi ≠ 0) :
    Calls Tryz.prog 7 #[rv a lo b hi] w fun r w' => r = .returned (.tuple #[sv 0 0 false, .int .i64 1]) ∧ Below w.heap.size w w' := by
  have HC := Lib.hid (fun w => runCheck_any a lo b hi w)
  have t : (rErr a lo b hi != 0) = true := by simpa using hr
  clear hr
  unfold rv at HC ⊢
  go_enter Tryz.func7, Tryz.ntmps7
  go_wp2_with fail
  refine (HC.out _).mono ?_; rintro _ w1 ⟨rfl, hb1⟩
  obtain ⟨-, ⟨z0, z1, z2⟩, ⟨f0, f1, f2⟩, hB⟩ := ar_cells hb1
  replace hB := Lib.hid hB
  clear hb1
  go_wp2_with fail
  refine bodyPost_ret (v := .tuple #[sv 0 0 false, .int .i64 1]) (by simp [results, Tryz.results7, go_sem, sv, *]) rfl ⟨rfl, ?_⟩
  exact bset (bset (bset hB.out (by simp) _) (by simp) _) (by simp) _

set_option maxHeartbeats 4000000 in
theorem runYes_any (a lo b hi : Int) (w : World) (hr : rErr a lo b hi = 0) (a0 : -128 ≤ a) (a1 : a < 128) (b0 : -128 ≤ b) (b1 : b < 128) (l0 : -9223372036854775808 ≤ lo) (l1 : lo < 9223372036854775808) (h0 : -9223372036854775808 ≤ hi) (h1 : hi < 9223372036854775808) :
    Calls Tryz.prog 7 #[rv a lo b hi] w fun r w' => r = .returned (.tuple #[sv (loW a lo) (hiW b hi) (exB a lo && exB b hi), .int .i64 0]) ∧ Below w.heap.size w w' := by
  have HC := Lib.hid (fun w => runCheck_any a lo b hi w)
  have HE1 := Lib.hid (fun w => exact_any lo w l0 l1)
  have HE2 := Lib.hid (fun w => exact_any hi w h0 h1)
  have HD := Lib.hid (fun w => numDown_any a lo w a0 a1 l0 l1)
  have HU := Lib.hid (fun w => numUp_any b hi w b0 b1 h0 h1)
  have t : (rErr a lo b hi != 0) = false := by simpa using hr
  clear hr a0 a1 b0 b1 l0 l1 h0 h1
  have HX := Lib.hid (show exB a lo = (decide (a ≠ 0) || decide (downW lo = upW lo)) from rfl)
  have HY := Lib.hid (show exB b hi = (decide (b ≠ 0) || decide (downW hi = upW hi)) from rfl)
  obtain ⟨X, hX⟩ : ∃ X, X = loW a lo := ⟨_, rfl⟩
  obtain ⟨Y, hY⟩ : ∃ Y, Y = hiW b hi := ⟨_, rfl⟩
  obtain ⟨ea, hea⟩ : ∃ x, x = decide (downW lo = upW lo) := ⟨_, rfl⟩
  obtain ⟨eb, heb⟩ : ∃ x, x = decide (downW hi = upW hi) := ⟨_, rfl⟩
  rw [← hX] at HD ⊢
  rw [← hY] at HU ⊢
  rw [← hea] at HE1 HX
  rw [← heb] at HE2 HY
  clear hX hY hea heb
  unfold rv at HC ⊢
  unfold ev at HD HU
  have four : ∃ e : Bool, e = (exB a lo && exB b hi) := ⟨_, rfl⟩
  obtain ⟨e, he⟩ := four
  rw [← he]
  replace he := Lib.hid he
  have hcase : (a = 0 ∨ (a != 0) = true) ∧ (b = 0 ∨ (b != 0) = true) := by
    constructor
    · by_cases c : a = 0
      · exact .inl c
      · exact .inr (by simpa using c)
    · by_cases c : b = 0
      · exact .inl c
      · exact .inr (by simpa using c)
  obtain ⟨ca, cb⟩ := hcase
  go_enter Tryz.func7, Tryz.ntmps7
  go_upto_region 3 with (go_at_call 27; refine (HC.out _).mono ?_; rintro _ w1 ⟨rfl, hb1⟩; obtain ⟨⟨q0, q1, q2, q3⟩, ⟨z0, z1, z2⟩, ⟨f0, f1, f2⟩, hB⟩ := ar_cells hb1)
  clear HC
  go_cut [4] (fun s4 wx => s4 = .bool e ∧ wx = w1)
  case first =>
    clear hb1 hB z0 z1 z2 f0 f1 f2
    rcases ca with rfl | ca <;> rcases cb with rfl | cb <;> cases ea <;> cases eb
    all_goals
      go_wp2_with (go_at_call 28; (first | with_reducible refine (HE1.out _).mono ?_ | with_reducible refine (HE2.out _).mono ?_); rintro _ w' ⟨rfl, rfl⟩)
      go_meet
      refine ⟨?_, rfl⟩
      rw [he.out, HX.out, HY.out]
      simp_all
  case rest =>
    obtain ⟨rfl, rfl⟩ := hcut
    have hH := Lib.hid hb1
    clear hB hb1
    go_wp2_with fail
    go_region_with (first
      | (go_at_call 29; with_reducible refine (HD.out _).mono ?_; rintro _ w2 ⟨rfl, hb2⟩; (have hH2 := Lib.hid (ar_step hH.out hb2)); (obtain ⟨⟨q0, q1, q2, q3⟩, ⟨z0, z1, z2⟩, ⟨f0, f1, f2⟩, hB2⟩ := ar_cells hH2.out))
      | (go_at_call 29; with_reducible refine (HU.out _).mono ?_; rintro _ w3 ⟨rfl, hb3⟩; (have hH3 := Lib.hid (ar_step2 hH2.out hb3)); (obtain ⟨⟨q0, q1, q2, q3⟩, ⟨z0, z1, z2⟩, ⟨f0, f1, f2⟩, hB3⟩ := ar_cells hH3.out)))
    all_goals
      replace hB3 := Lib.hid hB3
      clear hH hH2 hH3 HD HU HE1 HE2 HX HY hb2 hb3 hB2 he q0 q1 q2 q3
      go_wp2_with fail
      refine bodyPost_ret (v := .tuple #[sv X Y e, .int .i64 0]) (by simp [results, Tryz.results7, go_sem, sv, *]) rfl ⟨rfl, ?_⟩
      exact bset (bset (bset hB3.out (by simp) _) (by simp) _) (by simp) _
end Ax
end Go.Proofs.YtmebmfgmopdieaaGreatDoor
