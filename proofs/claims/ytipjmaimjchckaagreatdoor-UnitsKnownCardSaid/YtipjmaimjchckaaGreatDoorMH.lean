/- THE WALKS of layer 23's program: the small functions of units. -/
import Derived.Test.YtipjmaimjchckaaGreatDoorMG
import Derived.Laws.EntriesVeiled
import Derived.Deep.RegionHeld3
/-! THE WALKS of layer 23's program: the small functions of units. -/
set_option linter.unusedSimpArgs false
set_option linter.unusedVariables false
namespace Go.Proofs.YtipjmaimjchckaaGreatDoor
open Go.RowKit
namespace Un
open Cal

/-- A run of days, as a value. -/
def rv (a lo b hi : Int) : Value := .agg #[.int .i8 a, .int .i64 lo, .int .i8 b, .int .i64 hi]

theorem unitsBoth_any (lo e hi f : Int) (w : World) :
    Calls Tryz.prog 104 #[.int .i64 lo, .int .i64 e, .int .i64 hi, .int .i64 f] w fun r w' => r = .returned (.tuple #[.int .i64 (if e = 0 then (if f = 0 then lo else 0) else 0), .int .i64 (if e = 0 then (if f = 0 then hi else 0) else 0), .int .i64 (if e = 0 then f else e)]) ∧ w = w' := by
  by_cases he : e = 0
  · subst he
    by_cases hf : f = 0
    · subst hf
      go_enter Tryz.func104, Tryz.ntmps104
      go_wp2
      go_ret3
      exact ⟨ret3_iii (by simp) (by simp) (by simp), rfl⟩
    · have t : (f != 0) = true := by rw [bne_iff_ne]; exact hf
      have HF := Lib.hid hf; clear hf
      go_enter Tryz.func104, Tryz.ntmps104
      go_wp2
      go_ret3
      exact ⟨ret3_iii (by simp [HF.out]) (by simp [HF.out]) (by simp), rfl⟩
  · have t : (e != 0) = true := by rw [bne_iff_ne]; exact he
    have HE := Lib.hid he; clear he
    go_enter Tryz.func104, Tryz.ntmps104
    go_wp2
    go_ret3
    exact ⟨ret3_iii (by simp [HE.out]) (by simp [HE.out]) (by simp [HE.out]), rfl⟩

theorem unitsRun_any (lo hi e : Int) (w : World) :
    Calls Tryz.prog 38 #[.int .i64 lo, .int .i64 hi, .int .i64 e] w fun r w' => r = .returned (.tuple #[if e = 0 then rv 0 lo 0 hi else rv 0 0 0 0, .int .i64 e]) ∧ Below w.heap.size w w' := by
  by_cases he : e = 0
  · subst he
    go_enter Tryz.func38, Tryz.ntmps38
    go_wp2
    refine bodyPost_ret (v := .tuple #[rv 0 lo 0 hi, .int .i64 0]) (by simp [results, Tryz.results38, go_sem, rv]) rfl ⟨by simp, ba (Below.refl _ _) _⟩
  · have t : (e != 0) = true := by rw [bne_iff_ne]; exact he
    have HE := Lib.hid he; clear he
    go_enter Tryz.func38, Tryz.ntmps38
    go_wp2
    refine bodyPost_ret (v := .tuple #[rv 0 0 0 0, .int .i64 e]) (by simp [results, Tryz.results38, go_sem, rv]) rfl ⟨by simp [HE.out], ba (Below.refl _ _) _⟩

theorem unitsYear_any (y : Int) (w : World) (hs : CalOk w) :
    Calls Tryz.prog 70 #[.int .i64 y] w fun r w' => r = .returned (.tuple #[.int .i64 (if -10000000000000000 ≤ y ∧ y ≤ 10000000000000000 then st y else 0), .int .i64 (if -10000000000000000 ≤ y ∧ y ≤ 10000000000000000 then st (y + 1) - 1 else 0), .int .i64 (if -10000000000000000 ≤ y ∧ y ≤ 10000000000000000 then 0 else 6)]) ∧ Below w.heap.size w w' := by
  by_cases c : -10000000000000000 ≤ y ∧ y ≤ 10000000000000000
  · rw [if_pos c, if_pos c, if_pos c]
    obtain ⟨c0, c1⟩ := c
    go_enter Tryz.func70, Tryz.ntmps70
    go_wp2_with fail
    refine (yearsStart_ok _ _ hs.steps (by omega) (by omega)).mono ?_; rintro e w1 ⟨rfl, hb1⟩
    go_wp2_with fail
    refine (yearsEnd_ok _ _ (hs.below hb1).steps (by omega) (by omega)).mono ?_; rintro e w2 ⟨rfl, hb2⟩
    go_wp2_with (go_at_call 104; refine (unitsBoth_any _ _ _ _ _).mono ?_; rintro e w' ⟨rfl, rfl⟩)
    go_ret3
    exact ⟨ret3_iii (by simp) (by simp) (by simp), bt hb1 hb2⟩
  · rw [if_neg c, if_neg c, if_neg c]
    have C : Hid (y < -10000000000000000 ∨ 10000000000000000 < y) := Lib.hid (by omega)
    clear c
    go_enter Tryz.func70, Tryz.ntmps70
    go_wp2_with (first | (go_at_call 102; refine (yearsStart_no _ _ C.out).mono ?_; rintro e w' ⟨rfl, rfl⟩) | (go_at_call 103; refine (yearsEnd_no _ _ C.out).mono ?_; rintro e w' ⟨rfl, rfl⟩) | (go_at_call 104; refine (unitsBoth_any _ _ _ _ _).mono ?_; rintro e w' ⟨rfl, rfl⟩))
    go_ret3
    exact ⟨ret3_iii (by simp) (by simp) (by simp), Below.refl _ _⟩

/-- The days of the month with an index, and the error. -/
def monthC (i : Int) : Int × Int × Int := if -10000000000000000 ≤ i / 12 ∧ i / 12 ≤ 10000000000000000 then (st (i / 12) + cum (i / 12) (i % 12 + 1), st (i / 12) + cum (i / 12) (i % 12 + 2) - 1, 0) else (0, 0, 6)

theorem startBoth (y m : Int) (m0 : 1 ≤ m) (m1 : m ≤ 12) :
    ∃ sv ev er : Int, (∀ W, CalOk W → Calls Tryz.prog 106 #[.int .i64 y, .int .i64 m] W fun e w' => e = .returned (.tuple #[.int .i64 sv, .int .i64 er]) ∧ Below W.heap.size W w') ∧
      (∀ W, CalOk W → Calls Tryz.prog 107 #[.int .i64 y, .int .i64 m] W fun e w' => e = .returned (.tuple #[.int .i64 ev, .int .i64 er]) ∧ Below W.heap.size W w') ∧
      ((er = 0 ∧ (if -10000000000000000 ≤ y ∧ y ≤ 10000000000000000 then (st y + cum y m, st y + cum y (m + 1) - 1, (0 : Int)) else (0, 0, 6)) = (sv, ev, 0)) ∨ (er = 6 ∧ (if -10000000000000000 ≤ y ∧ y ≤ 10000000000000000 then (st y + cum y m, st y + cum y (m + 1) - 1, (0 : Int)) else (0, 0, 6)) = (0, 0, 6))) := by
  by_cases c : -10000000000000000 ≤ y ∧ y ≤ 10000000000000000
  · exact ⟨_, _, 0, fun W h => monthsStart_ok y m W h c.1 c.2 m0 m1, fun W h => monthsEnd_ok y m W h c.1 c.2 m0 m1, Or.inl ⟨rfl, by rw [if_pos c]⟩⟩
  · have e : mErr y m = 6 := by unfold mErr; rw [if_neg c]
    refine ⟨0, 0, 6, fun W h => (monthsStart_no y m W (by rw [e]; decide)).mono fun r w' ⟨h1, h2⟩ => ⟨by rw [h1, e], by rw [← h2]; exact Below.refl _ _⟩, fun W h => (monthsEnd_no y m W (by rw [e]; decide)).mono fun r w' ⟨h1, h2⟩ => ⟨by rw [h1, e], by rw [← h2]; exact Below.refl _ _⟩, Or.inr ⟨rfl, by rw [if_neg c]⟩⟩

/-- The walk of units.month, where the error is a known one. -/
theorem month_walk (i sv ev er : Int) (w : World) (hs : CalOk w) (h0 : -9223372036854775808 ≤ i) (h1 : i < 9223372036854775808)
    (HS : ∀ W, CalOk W → Calls Tryz.prog 106 #[.int .i64 (i / 12), .int .i64 (i % 12 + 1)] W fun e w' => e = .returned (.tuple #[.int .i64 sv, .int .i64 er]) ∧ Below W.heap.size W w')
    (HE : ∀ W, CalOk W → Calls Tryz.prog 107 #[.int .i64 (i / 12), .int .i64 (i % 12 + 1)] W fun e w' => e = .returned (.tuple #[.int .i64 ev, .int .i64 er]) ∧ Below W.heap.size W w') (hz : er = 0 ∨ er = 6) :
    Calls Tryz.prog 73 #[.int .i64 i] w fun r w' => r = .returned (.tuple #[.int .i64 (if er = 0 then sv else 0), .int .i64 (if er = 0 then ev else 0), .int .i64 er]) ∧ Below w.heap.size w w' := by
  obtain ⟨c1, c2, c3⟩ := @div_cases i 12 (by omega)
  have HW := Lib.hid hs; clear hs
  by_cases hi : 0 ≤ i
  · have t : ¬ i % 12 < 0 := by omega
    have HS := Lib.hid HS; have HE := Lib.hid HE
    clear c1 c2 c3
    rcases hz with rfl | rfl
    · go_enter Tryz.func73, Tryz.ntmps73
      go_wp2_with fail
      refine (HS.out _ HW.out).mono ?_; rintro e w1 ⟨rfl, hb1⟩
      go_wp2_with fail
      refine (HE.out _ (HW.out.below hb1)).mono ?_; rintro e w2 ⟨rfl, hb2⟩
      go_wp2_with (go_at_call 104; refine (unitsBoth_any _ _ _ _ _).mono ?_; rintro e w' ⟨rfl, rfl⟩)
      go_ret3
      exact ⟨ret3_iii (by simp) (by simp) (by simp), bt hb1 hb2⟩
    · go_enter Tryz.func73, Tryz.ntmps73
      go_wp2_with fail
      refine (HS.out _ HW.out).mono ?_; rintro e w1 ⟨rfl, hb1⟩
      go_wp2_with fail
      refine (HE.out _ (HW.out.below hb1)).mono ?_; rintro e w2 ⟨rfl, hb2⟩
      go_wp2_with (go_at_call 104; refine (unitsBoth_any _ _ _ _ _).mono ?_; rintro e w' ⟨rfl, rfl⟩)
      go_ret3
      exact ⟨ret3_iii (by simp) (by simp) (by simp), bt hb1 hb2⟩
  · by_cases hz' : i.tmod 12 = 0
    · obtain ⟨e1, e2⟩ := c2 (Or.inl hz')
      have t : decide (i.tmod 12 < 0) = false := decide_eq_false (by omega)
      have k0 : -768614336404564652 ≤ i.tdiv 12 := by omega
      have k1 : i.tdiv 12 ≤ 768614336404564651 := by omega
      rw [← e1, ← e2] at HS HE
      have k2 : -12 ≤ i.tmod 12 := by omega
      have k3 : i.tmod 12 < 12 := by omega
      have HS := Lib.hid HS; have HE := Lib.hid HE
      clear c1 c2 c3 hz' e1 e2
      rcases hz with rfl | rfl
      · go_enter Tryz.func73, Tryz.ntmps73
        go_wp2_with fail
        refine (HS.out _ HW.out).mono ?_; rintro e w1 ⟨rfl, hb1⟩
        go_wp2_with fail
        refine (HE.out _ (HW.out.below hb1)).mono ?_; rintro e w2 ⟨rfl, hb2⟩
        go_wp2_with (go_at_call 104; refine (unitsBoth_any _ _ _ _ _).mono ?_; rintro e w' ⟨rfl, rfl⟩)
        go_ret3
        exact ⟨ret3_iii (by simp) (by simp) (by simp), bt hb1 hb2⟩
      · go_enter Tryz.func73, Tryz.ntmps73
        go_wp2_with fail
        refine (HS.out _ HW.out).mono ?_; rintro e w1 ⟨rfl, hb1⟩
        go_wp2_with fail
        refine (HE.out _ (HW.out.below hb1)).mono ?_; rintro e w2 ⟨rfl, hb2⟩
        go_wp2_with (go_at_call 104; refine (unitsBoth_any _ _ _ _ _).mono ?_; rintro e w' ⟨rfl, rfl⟩)
        go_ret3
        exact ⟨ret3_iii (by simp) (by simp) (by simp), bt hb1 hb2⟩
    · obtain ⟨e1, e2⟩ := c1 ⟨hz', by omega⟩
      have hneg := (c3 hz').2 (by omega)
      have t : decide (i.tmod 12 < 0) = true := decide_eq_true hneg
      have k0 : -768614336404564651 ≤ i.tdiv 12 := by omega
      have k1 : i.tdiv 12 ≤ 768614336404564651 := by omega
      rw [← e1, ← e2] at HS HE
      have k2 : -12 ≤ i.tmod 12 := by omega
      have k3 : i.tmod 12 < 12 := by omega
      have HS := Lib.hid HS; have HE := Lib.hid HE
      clear c1 c2 c3 hz' e1 e2
      rcases hz with rfl | rfl
      · go_enter Tryz.func73, Tryz.ntmps73
        go_wp2_with fail
        refine (HS.out _ HW.out).mono ?_; rintro e w1 ⟨rfl, hb1⟩
        go_wp2_with fail
        refine (HE.out _ (HW.out.below hb1)).mono ?_; rintro e w2 ⟨rfl, hb2⟩
        go_wp2_with (go_at_call 104; refine (unitsBoth_any _ _ _ _ _).mono ?_; rintro e w' ⟨rfl, rfl⟩)
        go_ret3
        exact ⟨ret3_iii (by simp) (by simp) (by simp), bt hb1 hb2⟩
      · go_enter Tryz.func73, Tryz.ntmps73
        go_wp2_with fail
        refine (HS.out _ HW.out).mono ?_; rintro e w1 ⟨rfl, hb1⟩
        go_wp2_with fail
        refine (HE.out _ (HW.out.below hb1)).mono ?_; rintro e w2 ⟨rfl, hb2⟩
        go_wp2_with (go_at_call 104; refine (unitsBoth_any _ _ _ _ _).mono ?_; rintro e w' ⟨rfl, rfl⟩)
        go_ret3
        exact ⟨ret3_iii (by simp) (by simp) (by simp), bt hb1 hb2⟩

theorem unitsMonth_any (i : Int) (w : World) (hs : CalOk w) (h0 : -9223372036854775808 ≤ i) (h1 : i < 9223372036854775808) :
    Calls Tryz.prog 73 #[.int .i64 i] w fun r w' => r = .returned (.tuple #[.int .i64 (monthC i).1, .int .i64 (monthC i).2.1, .int .i64 (monthC i).2.2]) ∧ Below w.heap.size w w' := by
  obtain ⟨sv, ev, er, HS, HE, HR⟩ := startBoth (i / 12) (i % 12 + 1) (by omega) (by omega)
  rw [show i % 12 + 1 + 1 = i % 12 + 2 by omega] at HR
  unfold monthC
  rcases HR with ⟨he, hC⟩ | ⟨he, hC⟩
  · rw [hC]
    have h := month_walk i sv ev er w hs h0 h1 HS HE (Or.inl he)
    rw [if_pos he, if_pos he, he] at h; exact h
  · rw [hC]
    have h := month_walk i sv ev er w hs h0 h1 HS HE (Or.inr he)
    rw [if_neg (by omega), if_neg (by omega), he] at h; exact h
end Un
end Go.Proofs.YtipjmaimjchckaaGreatDoor

/-! THE WALKS of layer 23's program: kinds and what is built on them. -/
set_option linter.unusedSimpArgs false
set_option linter.unusedVariables false
namespace Go.Proofs.YtipjmaimjchckaaGreatDoor
open Go.RowKit
namespace Un
open Cal

theorem unitsKnown_any (p : Int) (w : World) (h0 : 0 ≤ p) (h1 : p < 256) :
    Calls Tryz.prog 36 #[.int .u8 p] w fun r w' => r = .returned (.bool (decide (1 ≤ p ∧ p ≤ 3))) ∧ w = w' := by
  by_cases a : 1 ≤ p
  · go_enter Tryz.func36, Tryz.ntmps36
    go_wp2
    go_ret
    exact ⟨by simp [a], rfl⟩
  · have b : p < 1 := by omega
    have e : p = 0 := by omega
    subst e
    go_enter Tryz.func36, Tryz.ntmps36
    go_wp2
    go_ret
    exact ⟨by simp, rfl⟩

theorem kinds2_any (d : Int) (w : World) :
    Calls Tryz.prog 74 #[.int .i64 d] w fun r w' => r = .returned (.tuple #[.int .i64 d, .int .i64 0]) ∧ w = w' := by
  go_enter Tryz.func74, Tryz.ntmps74
  go_wp2
  go_ret2
  exact ⟨ret2_ii rfl rfl, rfl⟩

theorem kinds3_any (d : Int) (w : World) :
    Calls Tryz.prog 75 #[.int .i64 d] w fun r w' => r = .returned (.tuple #[.int .i64 d, .int .i64 d, .int .i64 0]) ∧ w = w' := by
  go_enter Tryz.func75, Tryz.ntmps75
  go_wp2
  go_ret3
  exact ⟨ret3_iii rfl rfl rfl, rfl⟩

/-- The table of kinds, as a value. -/
def kindsV : Value := .agg #[.nilFunc, .nilFunc, .func (.func 69) #[] #[], .func (.func 70) #[] #[], .func (.func 71) #[] #[], .func (.func 73) #[] #[], .func (.func 74) #[] #[], .func (.func 75) #[] #[]]

theorem kinds_any (w : World) :
    Calls Tryz.prog 37 #[] w fun r w' => r = .returned kindsV ∧ Below w.heap.size w w' := by
  go_enter Tryz.func37, Tryz.ntmps37
  go_wp2
  refine bodyPost_ret (v := kindsV) (by simp [results, Tryz.results37, go_sem, kindsV]) rfl ⟨rfl, ba (Below.refl _ _) _⟩
theorem monthOfC_bd (d : Int) : -10000000000000000 ≤ (monthOfC d).1 ∧ (monthOfC d).1 ≤ 10000000000000000 ∧ 0 ≤ (monthOfC d).2.1 ∧ (monthOfC d).2.1 ≤ 12 := by
  unfold monthOfC
  split
  · next h =>
    obtain ⟨s1, s2⟩ := yof_spec d
    have := @mof_spec (yof d) (d - st (yof d)) (by omega) (by have := st_succ (yof d); omega)
    exact ⟨h.1, h.2, by dsimp only; omega, by dsimp only; omega⟩
  · decide

theorem kinds1_any (d : Int) (w : World) (hs : CalOk w) (h0 : -9223372036854775808 ≤ d) (h1 : d < 9223372036854775808) :
    Calls Tryz.prog 71 #[.int .i64 d] w fun r w' => r = .returned (.tuple #[.int .i64 (12 * (monthOfC d).1 + (monthOfC d).2.1 - 1), .int .i64 (monthOfC d).2.2]) ∧ Below w.heap.size w w' := by
  have HY := Lib.hid (monthsOf_any d w hs h0 h1)
  clear hs
  have hk := monthOfC_bd d
  generalize monthOfC d = q at HY hk ⊢
  obtain ⟨y, m, e⟩ := q
  obtain ⟨k0, k1, k2, k3⟩ := hk
  dsimp only at k0 k1 k2 k3 ⊢
  go_enter Tryz.func71, Tryz.ntmps71
  go_wp2_with fail
  refine HY.out.mono ?_; rintro e w1 ⟨rfl, hb1⟩
  go_wp2
  go_ret2
  exact ⟨ret2_ii (by simp) rfl, hb1⟩

theorem kindsAt1 (w : World) : (Instr.index 80 kindsV (.int .u8 1)).run Tryz.prog w = .ok (.agg #[.func (.func 69) #[] #[], .func (.func 70) #[] #[]]) w := by kernel_rfl
theorem kindsAt2 (w : World) : (Instr.index 80 kindsV (.int .u8 2)).run Tryz.prog w = .ok (.agg #[.func (.func 71) #[] #[], .func (.func 73) #[] #[]]) w := by kernel_rfl
theorem kindsAt3 (w : World) : (Instr.index 80 kindsV (.int .u8 3)).run Tryz.prog w = .ok (.agg #[.func (.func 74) #[] #[], .func (.func 75) #[] #[]]) w := by kernel_rfl

theorem unitsRun_flat (lo hi e : Int) (w : World) :
    Calls Tryz.prog 38 #[.int .i64 lo, .int .i64 hi, .int .i64 e] w fun r w' => r = .returned (.tuple #[.agg #[.int .i8 0, .int .i64 (if e = 0 then lo else 0), .int .i8 0, .int .i64 (if e = 0 then hi else 0)], .int .i64 e]) ∧ Below w.heap.size w w' := by
  refine (unitsRun_any lo hi e w).mono fun r w' ⟨h1, h2⟩ => ⟨?_, h2⟩
  rw [h1]
  by_cases he : e = 0
  · rw [if_pos he, if_pos he, if_pos he]; rfl
  · rw [if_neg he, if_neg he, if_neg he]; rfl

/-- The cells of a run that was made first read as they did. -/
theorem run_cells {w W : World} {a lo b hi : Value} {t : TypeId} (h : Below (w.alloc (.cells #[a, lo, b, hi] t)).heap.size (w.alloc (.cells #[a, lo, b, hi] t)) W) :
    W.cell? ⟨w.heap.size, 0, none⟩ = some a ∧ W.cell? ⟨w.heap.size, 1, none⟩ = some lo ∧ W.cell? ⟨w.heap.size, 2, none⟩ = some b ∧ W.cell? ⟨w.heap.size, 3, none⟩ = some hi ∧
    W.frozen? ⟨w.heap.size, 0, none⟩ = false ∧ W.frozen? ⟨w.heap.size, 1, none⟩ = false ∧ W.frozen? ⟨w.heap.size, 2, none⟩ = false ∧ W.frozen? ⟨w.heap.size, 3, none⟩ = false := by
  refine ⟨?_, ?_, ?_, ?_, ?_, ?_, ?_, ?_⟩
  · rw [h.cell (by simp)]; simp [go_sem]
  · rw [h.cell (by simp)]; simp [go_sem]
  · rw [h.cell (by simp)]; simp [go_sem]
  · rw [h.cell (by simp)]; simp [go_sem]
  · rw [h.frozen (by simp)]; simp [go_sem]
  · rw [h.frozen (by simp)]; simp [go_sem]
  · rw [h.frozen (by simp)]; simp [go_sem]
  · rw [h.frozen (by simp)]; simp [go_sem]

set_option maxHeartbeats 400000 in
set_option maxRecDepth 8000 in
theorem holding1_walk (d i e lo hi f : Int) (w : World) (hs : CalOk w)
    (HI : ∀ W, CalOk W → Calls Tryz.prog 69 #[.int .i64 d] W fun r w' => r = .returned (.tuple #[.int .i64 i, .int .i64 e]) ∧ Below W.heap.size W w')
    (HA : ∀ W, CalOk W → Calls Tryz.prog 70 #[.int .i64 i] W fun r w' => r = .returned (.tuple #[.int .i64 lo, .int .i64 hi, .int .i64 f]) ∧ Below W.heap.size W w') :
    Calls Tryz.prog 8 #[.int .i64 d, .int .u8 1] w fun r w' => r = .returned (.tuple #[rv 0 (if e = 0 then (if f = 0 then lo else 0) else 0) 0 (if e = 0 then (if f = 0 then hi else 0) else 0), .int .i64 (if e = 0 then f else e)]) ∧ Below w.heap.size w w' := by
  replace HI := Lib.hid HI
  replace HA := Lib.hid HA
  have HS := Lib.hid hs; clear hs
  have K := kindsAt1
  unfold kindsV at K
  by_cases he : e = 0
  · subst he
    rw [if_pos rfl, if_pos rfl, if_pos rfl]
    have HR := fun W => unitsRun_flat lo hi f W
    generalize (if f = 0 then lo else 0) = L at HR ⊢
    generalize (if f = 0 then hi else 0) = H at HR ⊢
    replace HR := Lib.hid HR
    go_enter Tryz.func8, Tryz.ntmps8
    go_wp2_with (first | (go_at_call 36; refine (unitsKnown_any _ _ (by omega) (by omega)).mono ?_; rintro e w' ⟨rfl, rfl⟩))
    refine (kinds_any _).mono ?_; rintro e w1 ⟨rfl, hb1⟩
    unfold kindsV
    go_wp2_with fail
    have c1 : CalOk (w1.alloc (.cells #[.func (.func 69) #[] #[], .func (.func 70) #[] #[]] 79)) := HS.out.below (ba (bt (ba (Below.refl _ _) _) hb1) _)
    refine (HI.out _ c1).mono ?_; rintro e w2 ⟨rfl, hb2⟩
    have r1 : w2.cell? ⟨w1.heap.size, 1, none⟩ = some (.func (.func 70) #[] #[]) := by
      rw [hb2.cell (by simp)]; simp [go_sem]
    go_wp2_with fail
    refine (HA.out _ (c1.below hb2)).mono ?_; rintro e w3 ⟨rfl, hb3⟩
    go_wp2_with fail
    refine (HR.out _).mono ?_; rintro e w4 ⟨rfl, hb4⟩
    have hB := bt (bt (bt (ba hb1 _) hb2) hb3) hb4
    obtain ⟨q0, q1, q2, q3, z0, z1, z2, z3⟩ := run_cells hB
    go_wp2_with fail
    refine bodyPost_ret (v := .tuple #[rv 0 L 0 H, .int .i64 f]) (by simp [results, Tryz.results8, go_sem, rv, q0, q1, q2, q3]) rfl ⟨rfl, ?_⟩
    exact ((((bt (ba (Below.refl _ _) _) hB).setCell (Nat.le_refl _) _).setCell (Nat.le_refl _) _).setCell (Nat.le_refl _) _).setCell (Nat.le_refl _) _
  · have t : (e != 0) = true := by rw [bne_iff_ne]; exact he
    rw [if_neg he, if_neg he, if_neg he]
    go_enter Tryz.func8, Tryz.ntmps8
    go_wp2_with (first | (go_at_call 36; refine (unitsKnown_any _ _ (by omega) (by omega)).mono ?_; rintro e w' ⟨rfl, rfl⟩))
    refine (kinds_any _).mono ?_; rintro _ w1 ⟨rfl, hb1⟩
    unfold kindsV
    go_wp2_with fail
    have c1 : CalOk (w1.alloc (.cells #[.func (.func 69) #[] #[], .func (.func 70) #[] #[]] 79)) := HS.out.below (ba (bt (ba (Below.refl _ _) _) hb1) _)
    refine (HI.out _ c1).mono ?_; rintro _ w2 ⟨rfl, hb2⟩
    replace he := Lib.hid he
    have hB := bt (ba hb1 _) hb2
    obtain ⟨q0, q1, q2, q3, z0, z1, z2, z3⟩ := run_cells hB
    go_wp2_with fail
    refine bodyPost_ret (v := .tuple #[rv 0 0 0 0, .int .i64 e]) (by simp [results, Tryz.results8, go_sem, rv, q0, q1, q2, q3]) rfl ⟨rfl, ?_⟩
    exact ((((bt (ba (Below.refl _ _) _) hB).setCell (Nat.le_refl _) _).setCell (Nat.le_refl _) _).setCell (Nat.le_refl _) _).setCell (Nat.le_refl _) _
set_option maxHeartbeats 400000 in
set_option maxRecDepth 8000 in
theorem holding2_walk (d i e lo hi f : Int) (w : World) (hs : CalOk w)
    (HI : ∀ W, CalOk W → Calls Tryz.prog 71 #[.int .i64 d] W fun r w' => r = .returned (.tuple #[.int .i64 i, .int .i64 e]) ∧ Below W.heap.size W w')
    (HA : ∀ W, CalOk W → Calls Tryz.prog 73 #[.int .i64 i] W fun r w' => r = .returned (.tuple #[.int .i64 lo, .int .i64 hi, .int .i64 f]) ∧ Below W.heap.size W w') :
    Calls Tryz.prog 8 #[.int .i64 d, .int .u8 2] w fun r w' => r = .returned (.tuple #[rv 0 (if e = 0 then (if f = 0 then lo else 0) else 0) 0 (if e = 0 then (if f = 0 then hi else 0) else 0), .int .i64 (if e = 0 then f else e)]) ∧ Below w.heap.size w w' := by
  replace HI := Lib.hid HI
  replace HA := Lib.hid HA
  have HS := Lib.hid hs; clear hs
  have K := kindsAt2
  unfold kindsV at K
  by_cases he : e = 0
  · subst he
    rw [if_pos rfl, if_pos rfl, if_pos rfl]
    have HR := fun W => unitsRun_flat lo hi f W
    generalize (if f = 0 then lo else 0) = L at HR ⊢
    generalize (if f = 0 then hi else 0) = H at HR ⊢
    replace HR := Lib.hid HR
    go_enter Tryz.func8, Tryz.ntmps8
    go_wp2_with (first | (go_at_call 36; refine (unitsKnown_any _ _ (by omega) (by omega)).mono ?_; rintro e w' ⟨rfl, rfl⟩))
    refine (kinds_any _).mono ?_; rintro e w1 ⟨rfl, hb1⟩
    unfold kindsV
    go_wp2_with fail
    have c1 : CalOk (w1.alloc (.cells #[.func (.func 71) #[] #[], .func (.func 73) #[] #[]] 79)) := HS.out.below (ba (bt (ba (Below.refl _ _) _) hb1) _)
    refine (HI.out _ c1).mono ?_; rintro e w2 ⟨rfl, hb2⟩
    have r1 : w2.cell? ⟨w1.heap.size, 1, none⟩ = some (.func (.func 73) #[] #[]) := by
      rw [hb2.cell (by simp)]; simp [go_sem]
    go_wp2_with fail
    refine (HA.out _ (c1.below hb2)).mono ?_; rintro e w3 ⟨rfl, hb3⟩
    go_wp2_with fail
    refine (HR.out _).mono ?_; rintro e w4 ⟨rfl, hb4⟩
    have hB := bt (bt (bt (ba hb1 _) hb2) hb3) hb4
    obtain ⟨q0, q1, q2, q3, z0, z1, z2, z3⟩ := run_cells hB
    go_wp2_with fail
    refine bodyPost_ret (v := .tuple #[rv 0 L 0 H, .int .i64 f]) (by simp [results, Tryz.results8, go_sem, rv, q0, q1, q2, q3]) rfl ⟨rfl, ?_⟩
    exact ((((bt (ba (Below.refl _ _) _) hB).setCell (Nat.le_refl _) _).setCell (Nat.le_refl _) _).setCell (Nat.le_refl _) _).setCell (Nat.le_refl _) _
  · have t : (e != 0) = true := by rw [bne_iff_ne]; exact he
    rw [if_neg he, if_neg he, if_neg he]
    go_enter Tryz.func8, Tryz.ntmps8
    go_wp2_with (first | (go_at_call 36; refine (unitsKnown_any _ _ (by omega) (by omega)).mono ?_; rintro e w' ⟨rfl, rfl⟩))
    refine (kinds_any _).mono ?_; rintro _ w1 ⟨rfl, hb1⟩
    unfold kindsV
    go_wp2_with fail
    have c1 : CalOk (w1.alloc (.cells #[.func (.func 71) #[] #[], .func (.func 73) #[] #[]] 79)) := HS.out.below (ba (bt (ba (Below.refl _ _) _) hb1) _)
    refine (HI.out _ c1).mono ?_; rintro _ w2 ⟨rfl, hb2⟩
    replace he := Lib.hid he
    have hB := bt (ba hb1 _) hb2
    obtain ⟨q0, q1, q2, q3, z0, z1, z2, z3⟩ := run_cells hB
    go_wp2_with fail
    refine bodyPost_ret (v := .tuple #[rv 0 0 0 0, .int .i64 e]) (by simp [results, Tryz.results8, go_sem, rv, q0, q1, q2, q3]) rfl ⟨rfl, ?_⟩
    exact ((((bt (ba (Below.refl _ _) _) hB).setCell (Nat.le_refl _) _).setCell (Nat.le_refl _) _).setCell (Nat.le_refl _) _).setCell (Nat.le_refl _) _
set_option maxHeartbeats 400000 in
set_option maxRecDepth 8000 in
theorem holding3_walk (d i e lo hi f : Int) (w : World) (hs : CalOk w)
    (HI : ∀ W, CalOk W → Calls Tryz.prog 74 #[.int .i64 d] W fun r w' => r = .returned (.tuple #[.int .i64 i, .int .i64 e]) ∧ Below W.heap.size W w')
    (HA : ∀ W, CalOk W → Calls Tryz.prog 75 #[.int .i64 i] W fun r w' => r = .returned (.tuple #[.int .i64 lo, .int .i64 hi, .int .i64 f]) ∧ Below W.heap.size W w') :
    Calls Tryz.prog 8 #[.int .i64 d, .int .u8 3] w fun r w' => r = .returned (.tuple #[rv 0 (if e = 0 then (if f = 0 then lo else 0) else 0) 0 (if e = 0 then (if f = 0 then hi else 0) else 0), .int .i64 (if e = 0 then f else e)]) ∧ Below w.heap.size w w' := by
  replace HI := Lib.hid HI
  replace HA := Lib.hid HA
  have HS := Lib.hid hs; clear hs
  have K := kindsAt3
  unfold kindsV at K
  by_cases he : e = 0
  · subst he
    rw [if_pos rfl, if_pos rfl, if_pos rfl]
    have HR := fun W => unitsRun_flat lo hi f W
    generalize (if f = 0 then lo else 0) = L at HR ⊢
    generalize (if f = 0 then hi else 0) = H at HR ⊢
    replace HR := Lib.hid HR
    go_enter Tryz.func8, Tryz.ntmps8
    go_wp2_with (first | (go_at_call 36; refine (unitsKnown_any _ _ (by omega) (by omega)).mono ?_; rintro e w' ⟨rfl, rfl⟩))
    refine (kinds_any _).mono ?_; rintro e w1 ⟨rfl, hb1⟩
    unfold kindsV
    go_wp2_with fail
    have c1 : CalOk (w1.alloc (.cells #[.func (.func 74) #[] #[], .func (.func 75) #[] #[]] 79)) := HS.out.below (ba (bt (ba (Below.refl _ _) _) hb1) _)
    refine (HI.out _ c1).mono ?_; rintro e w2 ⟨rfl, hb2⟩
    have r1 : w2.cell? ⟨w1.heap.size, 1, none⟩ = some (.func (.func 75) #[] #[]) := by
      rw [hb2.cell (by simp)]; simp [go_sem]
    go_wp2_with fail
    refine (HA.out _ (c1.below hb2)).mono ?_; rintro e w3 ⟨rfl, hb3⟩
    go_wp2_with fail
    refine (HR.out _).mono ?_; rintro e w4 ⟨rfl, hb4⟩
    have hB := bt (bt (bt (ba hb1 _) hb2) hb3) hb4
    obtain ⟨q0, q1, q2, q3, z0, z1, z2, z3⟩ := run_cells hB
    go_wp2_with fail
    refine bodyPost_ret (v := .tuple #[rv 0 L 0 H, .int .i64 f]) (by simp [results, Tryz.results8, go_sem, rv, q0, q1, q2, q3]) rfl ⟨rfl, ?_⟩
    exact ((((bt (ba (Below.refl _ _) _) hB).setCell (Nat.le_refl _) _).setCell (Nat.le_refl _) _).setCell (Nat.le_refl _) _).setCell (Nat.le_refl _) _
  · have t : (e != 0) = true := by rw [bne_iff_ne]; exact he
    rw [if_neg he, if_neg he, if_neg he]
    go_enter Tryz.func8, Tryz.ntmps8
    go_wp2_with (first | (go_at_call 36; refine (unitsKnown_any _ _ (by omega) (by omega)).mono ?_; rintro e w' ⟨rfl, rfl⟩))
    refine (kinds_any _).mono ?_; rintro _ w1 ⟨rfl, hb1⟩
    unfold kindsV
    go_wp2_with fail
    have c1 : CalOk (w1.alloc (.cells #[.func (.func 74) #[] #[], .func (.func 75) #[] #[]] 79)) := HS.out.below (ba (bt (ba (Below.refl _ _) _) hb1) _)
    refine (HI.out _ c1).mono ?_; rintro _ w2 ⟨rfl, hb2⟩
    replace he := Lib.hid he
    have hB := bt (ba hb1 _) hb2
    obtain ⟨q0, q1, q2, q3, z0, z1, z2, z3⟩ := run_cells hB
    go_wp2_with fail
    refine bodyPost_ret (v := .tuple #[rv 0 0 0 0, .int .i64 e]) (by simp [results, Tryz.results8, go_sem, rv, q0, q1, q2, q3]) rfl ⟨rfl, ?_⟩
    exact ((((bt (ba (Below.refl _ _) _) hB).setCell (Nat.le_refl _) _).setCell (Nat.le_refl _) _).setCell (Nat.le_refl _) _).setCell (Nat.le_refl _) _
/-- What Holding answers. -/
def holdC (p d : Int) : Int × Int × Int := if p = 3 then (d, d, 0) else if -10000000000000000 ≤ yof d ∧ yof d ≤ 10000000000000000 then (if p = 1 then (st (yof d), st (yof d + 1) - 1, 0) else (st (yof d) + cum (yof d) (mof (yof d) (d - st (yof d))), st (yof d) + cum (yof d) (mof (yof d) (d - st (yof d)) + 1) - 1, 0)) else (0, 0, 6)

theorem holding3_any (d : Int) (w : World) (hs : CalOk w) :
    Calls Tryz.prog 8 #[.int .i64 d, .int .u8 3] w fun r w' => r = .returned (.tuple #[rv 0 d 0 d, .int .i64 0]) ∧ Below w.heap.size w w' :=
  holding3_walk d d 0 d d 0 w hs (fun W _ => (kinds2_any d W).mono fun r w' ⟨h1, h2⟩ => ⟨h1, by rw [← h2]; exact Below.refl _ _⟩) (fun W _ => (kinds3_any d W).mono fun r w' ⟨h1, h2⟩ => ⟨h1, by rw [← h2]; exact Below.refl _ _⟩)

theorem holding1_any (d : Int) (w : World) (hs : CalOk w) (h0 : -9223372036854775808 ≤ d) (h1 : d < 9223372036854775808) :
    Calls Tryz.prog 8 #[.int .i64 d, .int .u8 1] w fun r w' => r = .returned (.tuple #[rv 0 (holdC 1 d).1 0 (holdC 1 d).2.1, .int .i64 (holdC 1 d).2.2]) ∧ Below w.heap.size w w' := by
  have h := holding1_walk d _ _ _ _ _ w hs (fun W c => yearOf_any d W c.steps h0 h1) (fun W c => unitsYear_any _ W c)
  refine h.mono fun r w' ⟨e, b⟩ => ⟨?_, b⟩
  rw [e]
  unfold holdC yearOfC
  by_cases c : -10000000000000000 ≤ yof d ∧ yof d ≤ 10000000000000000
  · simp [c]
  · simp [c]

theorem monthC_of (d : Int) (c : -10000000000000000 ≤ yof d ∧ yof d ≤ 10000000000000000) :
    monthC (12 * (monthOfC d).1 + (monthOfC d).2.1 - 1) = (st (yof d) + cum (yof d) (mof (yof d) (d - st (yof d))), st (yof d) + cum (yof d) (mof (yof d) (d - st (yof d)) + 1) - 1, 0) := by
  have e : monthOfC d = (yof d, mof (yof d) (d - st (yof d)), 0) := by unfold monthOfC; rw [if_pos c]
  obtain ⟨s1, s2⟩ := yof_spec d
  obtain ⟨m0, m1, -, -⟩ := @mof_spec (yof d) (d - st (yof d)) (by omega) (by have := st_succ (yof d); omega)
  rw [e]; dsimp only
  generalize mof (yof d) (d - st (yof d)) = m at m0 m1 ⊢
  have q : (12 * yof d + m - 1) / 12 = yof d := by omega
  have r : (12 * yof d + m - 1) % 12 = m - 1 := by omega
  unfold monthC
  rw [q, r, if_pos c, show m - 1 + 1 = m by omega, show m - 1 + 2 = m + 1 by omega]

theorem holding2_any (d : Int) (w : World) (hs : CalOk w) (h0 : -9223372036854775808 ≤ d) (h1 : d < 9223372036854775808) :
    Calls Tryz.prog 8 #[.int .i64 d, .int .u8 2] w fun r w' => r = .returned (.tuple #[rv 0 (holdC 2 d).1 0 (holdC 2 d).2.1, .int .i64 (holdC 2 d).2.2]) ∧ Below w.heap.size w w' := by
  obtain ⟨b1, b2, b3, b4⟩ := monthOfC_bd d
  have h := holding2_walk d _ _ _ _ _ w hs (fun W c => kinds1_any d W c h0 h1) (fun W c => unitsMonth_any _ W c (by omega) (by omega))
  refine h.mono fun r w' ⟨e, b⟩ => ⟨?_, b⟩
  rw [e]
  by_cases c : -10000000000000000 ≤ yof d ∧ yof d ≤ 10000000000000000
  · rw [monthC_of d c]
    unfold holdC monthOfC
    simp [c]
  · unfold holdC monthOfC
    simp [c]

set_option maxHeartbeats 400000 in
set_option maxRecDepth 8000 in
theorem holdingNo_any (d p : Int) (w : World) (h0 : 0 ≤ p) (h1 : p < 256) (hp : p < 1 ∨ 3 < p) :
    Calls Tryz.prog 8 #[.int .i64 d, .int .u8 p] w fun r w' => r = .returned (.tuple #[rv 0 0 0 0, .int .i64 18]) ∧ Below w.heap.size w w' := by
  have t : decide (1 ≤ p ∧ p ≤ 3) = false := decide_eq_false (by omega)
  have HK := fun W => unitsKnown_any p W h0 h1
  rw [t] at HK
  replace HK := Lib.hid HK
  clear t hp
  go_enter Tryz.func8, Tryz.ntmps8
  go_wp2_with (first | (go_at_call 36; refine (HK.out _).mono ?_; rintro e w' ⟨rfl, rfl⟩))
  refine bodyPost_ret (v := .tuple #[rv 0 0 0 0, .int .i64 18]) (by simp [results, Tryz.results8, go_sem, rv]) rfl ⟨rfl, ?_⟩
  exact ba (Below.refl _ _) _

/-- What Holding answers, whatever the kind. -/
def holdAll (p d : Int) : Int × Int × Int := if p < 1 ∨ 3 < p then (0, 0, 18) else holdC p d

theorem holding_any (d p : Int) (w : World) (hs : CalOk w) (h0 : -9223372036854775808 ≤ d) (h1 : d < 9223372036854775808) (p0 : 0 ≤ p) (p1 : p < 256) :
    Calls Tryz.prog 8 #[.int .i64 d, .int .u8 p] w fun r w' => r = .returned (.tuple #[rv 0 (holdAll p d).1 0 (holdAll p d).2.1, .int .i64 (holdAll p d).2.2]) ∧ Below w.heap.size w w' := by
  unfold holdAll
  by_cases hp : p < 1 ∨ 3 < p
  · rw [if_pos hp]
    exact holdingNo_any d p w p0 p1 hp
  · rw [if_neg hp]
    obtain rfl | rfl | rfl : p = 1 ∨ p = 2 ∨ p = 3 := by omega
    · exact holding1_any d w hs h0 h1
    · exact holding2_any d w hs h0 h1
    · exact holding3_any d w hs
end Un
end Go.Proofs.YtipjmaimjchckaaGreatDoor

/-! THE WALKS of layer 23's program: Is, index and what is built on them. -/
set_option linter.unusedSimpArgs false
set_option linter.unusedVariables false
namespace Go.Proofs.YtipjmaimjchckaaGreatDoor
open Go.RowKit
namespace Un
open Cal

/-- What Is answers. -/
def isC (p a lo b hi : Int) : Bool := decide (a = 0) && (decide ((holdAll p lo).2.2 = 0) && (decide (b = 0) && (decide ((holdAll p lo).1 = lo) && decide ((holdAll p lo).2.1 = hi))))

set_option maxHeartbeats 400000 in
theorem is_walk (p a lo b hi x y e : Int) (w : World) (hs : CalOk w)
    (HH : ∀ W, CalOk W → Calls Tryz.prog 8 #[.int .i64 lo, .int .u8 p] W fun r w' => r = .returned (.tuple #[rv 0 x 0 y, .int .i64 e]) ∧ Below W.heap.size W w') :
    Calls Tryz.prog 14 #[rv a lo b hi, .int .u8 p] w fun r w' => r = .returned (.bool (decide (a = 0) && (decide (e = 0) && (decide (b = 0) && (decide (x = lo) && decide (y = hi)))))) ∧ Below w.heap.size w w' := by
  replace HH := Lib.hid HH
  have HS := Lib.hid hs; clear hs
  unfold rv at HH ⊢
  by_cases ha : a = 0
  · subst ha
    go_enter Tryz.func14, Tryz.ntmps14
    go_wp2_with fail
    refine (HH.out _ (HS.out.below (ba (Below.refl _ _) _))).mono ?_; rintro _ w1 ⟨rfl, hb1⟩
    obtain ⟨q0, q1, q2, q3, z0, z1, z2, z3⟩ := run_cells hb1
    by_cases he : e = 0
    · subst he
      have hb1' := ba hb1 (.cells #[.int .i8 0, .int .i64 x, .int .i8 0, .int .i64 y] 26)
      obtain ⟨q0, q1, q2, q3, z0, z1, z2, z3⟩ := run_cells hb1'
      go_wp2_with fail
      all_goals
        clear q0 q1 q2 q3 z0 z1 z2 z3 HH HS
        subst_vars
        go_ret
        refine ⟨?_, bt (ba (Below.refl _ _) _) hb1'⟩
        clear hb1' hb1
        first | rfl | (simp_all; done) | (simp_all; omega)
    · have t : (e == 0) = false := by rw [beq_eq_false_iff_ne]; exact he
      replace he := Lib.hid he
      go_wp2_with fail
      go_ret
      exact ⟨by simp [he.out], bt (ba (Below.refl _ _) _) (ba hb1 _)⟩
  · have t : (a != 0) = true := by rw [bne_iff_ne]; exact ha
    replace ha := Lib.hid ha
    go_enter Tryz.func14, Tryz.ntmps14
    go_wp2_with fail
    go_ret
    exact ⟨by simp [ha.out], ba (Below.refl _ _) _⟩

theorem is_any (p a lo b hi : Int) (w : World) (hs : CalOk w) (h0 : -9223372036854775808 ≤ lo) (h1 : lo < 9223372036854775808) (p0 : 0 ≤ p) (p1 : p < 256) :
    Calls Tryz.prog 14 #[rv a lo b hi, .int .u8 p] w fun r w' => r = .returned (.bool (isC p a lo b hi)) ∧ Below w.heap.size w w' :=
  is_walk p a lo b hi _ _ _ w hs fun W c => holding_any lo p W c h0 h1 p0 p1

end Un
end Go.Proofs.YtipjmaimjchckaaGreatDoor

/-! THE WALKS of layer 23's program: index. -/
set_option linter.unusedSimpArgs false
set_option linter.unusedVariables false
namespace Go.Proofs.YtipjmaimjchckaaGreatDoor
open Go.RowKit
namespace Un
open Cal

theorem CalOk.drew {w : World} (h : CalOk w) : CalOk w.drew := h.below ((Below.refl _ _).drew)

set_option maxHeartbeats 1000000 in
set_option maxRecDepth 8000 in
theorem index_walk1 (i e a lo b hi : Int) (w : World) (hs : CalOk w) (h0 : -9223372036854775808 ≤ lo) (h1 : lo < 9223372036854775808) 
    (HX : ∀ W, CalOk W → Calls Tryz.prog 69 #[.int .i64 lo] W fun r w' => r = .returned (.tuple #[.int .i64 i, .int .i64 e]) ∧ Below W.heap.size W w') (hi1 : isC 1 a lo b hi = true) :
    Calls Tryz.prog 44 #[rv a lo b hi, .int .u8 1] w fun r w' => r = .returned (.tuple #[.int .i64 i, .int .i64 e]) ∧ Below w.heap.size w w' := by
  have HI := fun W c => is_any 1 a lo b hi W c h0 h1 (by omega) (by omega)
  rw [hi1] at HI
  replace HI := Lib.hid HI
  replace HX := Lib.hid HX
  have HS := Lib.hid hs; clear hs hi1
  have K := kindsAt1
  unfold kindsV at K
  have F : ∀ w : World, (Instr.field 79 (.agg #[.func (.func 69) #[] #[], .func (.func 70) #[] #[]]) 0).run Tryz.prog w = .ok (.func (.func 69) #[] #[]) w := fun _ => by kernel_rfl
  unfold rv at HI ⊢
  go_enter Tryz.func44, Tryz.ntmps44
  go_wp2_with (first | (go_at_call 36; refine (unitsKnown_any _ _ (by omega) (by omega)).mono ?_; rintro e w' ⟨rfl, rfl⟩))
  refine (HI.out _ (HS.out.below (ba (Below.refl _ _) _))).mono ?_; rintro _ w1 ⟨rfl, hb1⟩
  obtain ⟨q0, q1, q2, q3, z0, z1, z2, z3⟩ := run_cells hb1
  go_wp2_with fail
  have hB := bt (ba (Below.refl _ _) _) hb1
  replace HS := Lib.hid (HS.out.below hB)
  go_region_held3 (fun w' => w'.cell? ⟨w.heap.size, 1, none⟩ = some (.int .i64 lo) ∧ CalOk w' ∧ Below w1.heap.size w1 w') (first | exact ⟨q1, HS.out.drew, (Below.refl _ _).drew⟩ | exact ⟨cell_later hb3 hh.1, hh.2.1.below hb3, bt hh.2.2 hb3⟩ | exact ⟨cell_later hb3 (show World.cell? (World.drew _) _ = _ from hh.1), hh.2.1.drew.below hb3, bt hh.2.2.drew hb3⟩ | exact ⟨cell_later hb2 q1, HS.out.drew.below hb2, bt (Below.refl _ _).drew hb2⟩) ((first | (go_at_call 37; refine (kinds_any _).mono ?_; rintro _ w2 ⟨rfl, hb2⟩; unfold kindsV) | (go_at_call 69; (have hh := ‹_ ∧ CalOk _ ∧ _›); refine (HX.out _ (by first | exact hh.2.1.drew | exact hh.2.1)).mono ?_; rintro _ w3 ⟨rfl, hb3⟩)))
  rename_i hh
  have HB := Lib.hid (bt hB hh.2.2)
  clear hh
  go_wp2
  go_ret2
  exact ⟨ret2_ii rfl rfl, HB.out⟩

set_option maxHeartbeats 1000000 in
set_option maxRecDepth 8000 in
theorem index_walk2 (i e a lo b hi : Int) (w : World) (hs : CalOk w) (h0 : -9223372036854775808 ≤ lo) (h1 : lo < 9223372036854775808) 
    (HX : ∀ W, CalOk W → Calls Tryz.prog 71 #[.int .i64 lo] W fun r w' => r = .returned (.tuple #[.int .i64 i, .int .i64 e]) ∧ Below W.heap.size W w') (hi1 : isC 2 a lo b hi = true) :
    Calls Tryz.prog 44 #[rv a lo b hi, .int .u8 2] w fun r w' => r = .returned (.tuple #[.int .i64 i, .int .i64 e]) ∧ Below w.heap.size w w' := by
  have HI := fun W c => is_any 2 a lo b hi W c h0 h1 (by omega) (by omega)
  rw [hi1] at HI
  replace HI := Lib.hid HI
  replace HX := Lib.hid HX
  have HS := Lib.hid hs; clear hs hi1
  have K := kindsAt2
  unfold kindsV at K
  have F : ∀ w : World, (Instr.field 79 (.agg #[.func (.func 71) #[] #[], .func (.func 73) #[] #[]]) 0).run Tryz.prog w = .ok (.func (.func 71) #[] #[]) w := fun _ => by kernel_rfl
  unfold rv at HI ⊢
  go_enter Tryz.func44, Tryz.ntmps44
  go_wp2_with (first | (go_at_call 36; refine (unitsKnown_any _ _ (by omega) (by omega)).mono ?_; rintro e w' ⟨rfl, rfl⟩))
  refine (HI.out _ (HS.out.below (ba (Below.refl _ _) _))).mono ?_; rintro _ w1 ⟨rfl, hb1⟩
  obtain ⟨q0, q1, q2, q3, z0, z1, z2, z3⟩ := run_cells hb1
  go_wp2_with fail
  have hB := bt (ba (Below.refl _ _) _) hb1
  replace HS := Lib.hid (HS.out.below hB)
  go_region_held3 (fun w' => w'.cell? ⟨w.heap.size, 1, none⟩ = some (.int .i64 lo) ∧ CalOk w' ∧ Below w1.heap.size w1 w') (first | exact ⟨q1, HS.out.drew, (Below.refl _ _).drew⟩ | exact ⟨cell_later hb3 hh.1, hh.2.1.below hb3, bt hh.2.2 hb3⟩ | exact ⟨cell_later hb3 (show World.cell? (World.drew _) _ = _ from hh.1), hh.2.1.drew.below hb3, bt hh.2.2.drew hb3⟩ | exact ⟨cell_later hb2 q1, HS.out.drew.below hb2, bt (Below.refl _ _).drew hb2⟩) ((first | (go_at_call 37; refine (kinds_any _).mono ?_; rintro _ w2 ⟨rfl, hb2⟩; unfold kindsV) | (go_at_call 71; (have hh := ‹_ ∧ CalOk _ ∧ _›); refine (HX.out _ (by first | exact hh.2.1.drew | exact hh.2.1)).mono ?_; rintro _ w3 ⟨rfl, hb3⟩)))
  rename_i hh
  have HB := Lib.hid (bt hB hh.2.2)
  clear hh
  go_wp2
  go_ret2
  exact ⟨ret2_ii rfl rfl, HB.out⟩

set_option maxHeartbeats 1000000 in
set_option maxRecDepth 8000 in
theorem index_walk3 (a lo b hi : Int) (w : World) (hs : CalOk w) (h0 : -9223372036854775808 ≤ lo) (h1 : lo < 9223372036854775808) (hi1 : isC 3 a lo b hi = true) :
    Calls Tryz.prog 44 #[rv a lo b hi, .int .u8 3] w fun r w' => r = .returned (.tuple #[.int .i64 lo, .int .i64 0]) ∧ Below w.heap.size w w' := by
  have HI := fun W c => is_any 3 a lo b hi W c h0 h1 (by omega) (by omega)
  rw [hi1] at HI
  replace HI := Lib.hid HI
  have HS := Lib.hid hs; clear hs hi1
  have K := kindsAt3
  unfold kindsV at K
  have F : ∀ w : World, (Instr.field 79 (.agg #[.func (.func 74) #[] #[], .func (.func 75) #[] #[]]) 0).run Tryz.prog w = .ok (.func (.func 74) #[] #[]) w := fun _ => by kernel_rfl
  unfold rv at HI ⊢
  go_enter Tryz.func44, Tryz.ntmps44
  go_wp2_with (first | (go_at_call 36; refine (unitsKnown_any _ _ (by omega) (by omega)).mono ?_; rintro e w' ⟨rfl, rfl⟩))
  refine (HI.out _ (HS.out.below (ba (Below.refl _ _) _))).mono ?_; rintro _ w1 ⟨rfl, hb1⟩
  obtain ⟨q0, q1, q2, q3, z0, z1, z2, z3⟩ := run_cells hb1
  go_wp2_with fail
  have hB := bt (ba (Below.refl _ _) _) hb1
  replace HS := Lib.hid (HS.out.below hB)
  go_region_held3 (fun w' => w'.cell? ⟨w.heap.size, 1, none⟩ = some (.int .i64 lo) ∧ CalOk w' ∧ Below w1.heap.size w1 w') (first | exact ⟨q1, HS.out.drew, (Below.refl _ _).drew⟩ | exact ⟨cell_later hb2 q1, HS.out.drew.below hb2, bt (Below.refl _ _).drew hb2⟩) ((first | (go_at_call 37; refine (kinds_any _).mono ?_; rintro e w2 ⟨rfl, hb2⟩; unfold kindsV) | (go_at_call 74; refine (kinds2_any _ _).mono ?_; rintro e w2 ⟨rfl, rfl⟩)))
  rename_i hh
  have HB := Lib.hid (bt hB hh.2.2)
  clear hh hb1 hb2 hB q0 q1 q2 q3 z0 z1 z2 z3
  go_wp2
  go_ret2
  exact ⟨ret2_ii rfl rfl, HB.out⟩

theorem indexNo_any (p a lo b hi : Int) (w : World) (hs : CalOk w) (h0 : -9223372036854775808 ≤ lo) (h1 : lo < 9223372036854775808) (p0 : 0 ≤ p) (p1 : p < 256) (hp : 1 ≤ p ∧ p ≤ 3) (hi1 : isC p a lo b hi = false) :
    Calls Tryz.prog 44 #[rv a lo b hi, .int .u8 p] w fun r w' => r = .returned (.tuple #[.int .i64 0, .int .i64 1]) ∧ Below w.heap.size w w' := by
  have HI := fun W c => is_any p a lo b hi W c h0 h1 p0 p1
  rw [hi1] at HI
  replace HI := Lib.hid HI
  have HK := fun W => unitsKnown_any p W p0 p1
  rw [decide_eq_true hp] at HK
  replace HK := Lib.hid HK
  have HS := Lib.hid hs; clear hs hi1 hp
  unfold rv at HI ⊢
  go_enter Tryz.func44, Tryz.ntmps44
  go_wp2_with (first | (go_at_call 36; refine (HK.out _).mono ?_; rintro e w' ⟨rfl, rfl⟩))
  refine (HI.out _ (HS.out.below (ba (Below.refl _ _) _))).mono ?_; rintro _ w1 ⟨rfl, hb1⟩
  have HB := Lib.hid (bt (ba (Below.refl _ _) _) hb1)
  clear hb1
  go_wp2_with fail
  go_ret2
  exact ⟨ret2_ii rfl rfl, HB.out⟩

theorem indexKind_any (p a lo b hi : Int) (w : World) (p0 : 0 ≤ p) (p1 : p < 256) (hp : p < 1 ∨ 3 < p) :
    Calls Tryz.prog 44 #[rv a lo b hi, .int .u8 p] w fun r w' => r = .returned (.tuple #[.int .i64 0, .int .i64 18]) ∧ Below w.heap.size w w' := by
  have t : decide (1 ≤ p ∧ p ≤ 3) = false := decide_eq_false (by omega)
  have HK := fun W => unitsKnown_any p W p0 p1
  rw [t] at HK
  replace HK := Lib.hid HK
  clear hp t
  unfold rv
  go_enter Tryz.func44, Tryz.ntmps44
  go_wp2_with (first | (go_at_call 36; refine (HK.out _).mono ?_; rintro e w' ⟨rfl, rfl⟩))
  go_ret2
  exact ⟨ret2_ii rfl rfl, ba (Below.refl _ _) _⟩
end Un
end Go.Proofs.YtipjmaimjchckaaGreatDoor

/-! THE WALKS of layer 23's program: index, joined; At. -/
set_option linter.unusedSimpArgs false
set_option linter.unusedVariables false
namespace Go.Proofs.YtipjmaimjchckaaGreatDoor
open Go.RowKit
namespace Un
open Cal

/-- The index of a unit by its first day. -/
def idxC (p lo : Int) : Int × Int := if p = 1 then yearOfC lo else if p = 2 then (12 * (monthOfC lo).1 + (monthOfC lo).2.1 - 1, (monthOfC lo).2.2) else (lo, 0)

/-- What index answers. -/
def indexC (p a lo b hi : Int) : Int × Int := if p < 1 ∨ 3 < p then (0, 18) else if isC p a lo b hi then idxC p lo else (0, 1)

theorem index_any (p a lo b hi : Int) (w : World) (hs : CalOk w) (h0 : -9223372036854775808 ≤ lo) (h1 : lo < 9223372036854775808) (p0 : 0 ≤ p) (p1 : p < 256) :
    Calls Tryz.prog 44 #[rv a lo b hi, .int .u8 p] w fun r w' => r = .returned (.tuple #[.int .i64 (indexC p a lo b hi).1, .int .i64 (indexC p a lo b hi).2]) ∧ Below w.heap.size w w' := by
  unfold indexC
  by_cases hp : p < 1 ∨ 3 < p
  · rw [if_pos hp]; exact indexKind_any p a lo b hi w p0 p1 hp
  · rw [if_neg hp]
    by_cases hi1 : isC p a lo b hi = true
    · rw [if_pos hi1]
      unfold idxC
      obtain rfl | rfl | rfl : p = 1 ∨ p = 2 ∨ p = 3 := by omega
      · exact index_walk1 _ _ a lo b hi w hs h0 h1 (fun W c => yearOf_any lo W c.steps h0 h1) hi1
      · exact index_walk2 _ _ a lo b hi w hs h0 h1 (fun W c => kinds1_any lo W c h0 h1) hi1
      · exact index_walk3 a lo b hi w hs h0 h1 hi1
    · rw [if_neg hi1]
      exact indexNo_any p a lo b hi w hs h0 h1 p0 p1 (by omega) (by simpa using hi1)
end Un
end Go.Proofs.YtipjmaimjchckaaGreatDoor

/-! THE WALKS of layer 23's program: At, Next, Prev, Index. -/
set_option linter.unusedSimpArgs false
set_option linter.unusedVariables false
namespace Go.Proofs.YtipjmaimjchckaaGreatDoor
open Go.RowKit
namespace Un
open Cal

theorem unitsIndex_any (p a lo b hi : Int) (w : World) (hs : CalOk w) (h0 : -9223372036854775808 ≤ lo) (h1 : lo < 9223372036854775808) (p0 : 0 ≤ p) (p1 : p < 256) :
    Calls Tryz.prog 11 #[rv a lo b hi, .int .u8 p] w fun r w' => r = .returned (.tuple #[.int .i64 (indexC p a lo b hi).1, .int .i64 (indexC p a lo b hi).2]) ∧ Below w.heap.size w w' := by
  have HI := fun W c => index_any p a lo b hi W c h0 h1 p0 p1
  generalize indexC p a lo b hi = q at HI ⊢
  obtain ⟨i, e⟩ := q
  replace HI := Lib.hid HI
  have HS := Lib.hid hs; clear hs
  unfold rv at HI ⊢
  go_enter Tryz.func11, Tryz.ntmps11
  go_wp2_with fail
  refine (HI.out _ (HS.out.below (ba (Below.refl _ _) _))).mono ?_; rintro _ w1 ⟨rfl, hb1⟩
  go_wp2_with fail
  go_ret2
  exact ⟨ret2_ii rfl rfl, bt (ba (Below.refl _ _) _) hb1⟩

set_option maxHeartbeats 400000 in
set_option maxRecDepth 8000 in
theorem at1_walk (i lo hi f : Int) (w : World) (hs : CalOk w)
    (HA : ∀ W, CalOk W → Calls Tryz.prog 70 #[.int .i64 i] W fun r w' => r = .returned (.tuple #[.int .i64 lo, .int .i64 hi, .int .i64 f]) ∧ Below W.heap.size W w') :
    Calls Tryz.prog 12 #[.int .i64 i, .int .u8 1] w fun r w' => r = .returned (.tuple #[rv 0 (if f = 0 then lo else 0) 0 (if f = 0 then hi else 0), .int .i64 f]) ∧ Below w.heap.size w w' := by
  have HS := Lib.hid hs; clear hs
  replace HA := Lib.hid HA
  have K := kindsAt1
  unfold kindsV at K
  have F : ∀ w : World, (Instr.field 79 (.agg #[.func (.func 69) #[] #[], .func (.func 70) #[] #[]]) 1).run Tryz.prog w = .ok (.func (.func 70) #[] #[]) w := fun _ => by kernel_rfl
  have HR := fun W => unitsRun_flat lo hi f W
  generalize (if f = 0 then lo else 0) = L at HR ⊢
  generalize (if f = 0 then hi else 0) = H at HR ⊢
  replace HR := Lib.hid HR
  go_enter Tryz.func12, Tryz.ntmps12
  go_wp2_with (first | (go_at_call 36; refine (unitsKnown_any _ _ (by omega) (by omega)).mono ?_; rintro e w' ⟨rfl, rfl⟩))
  refine (kinds_any _).mono ?_; rintro _ w1 ⟨rfl, hb1⟩
  unfold kindsV
  go_wp2_with fail
  refine (HA.out _ (HS.out.below (bt (ba (Below.refl _ _) _) hb1))).mono ?_; rintro _ w2 ⟨rfl, hb2⟩
  go_wp2_with fail
  refine (HR.out _).mono ?_; rintro _ w3 ⟨rfl, hb3⟩
  have hB := bt (bt hb1 hb2) hb3
  obtain ⟨q0, q1, q2, q3, z0, z1, z2, z3⟩ := run_cells hB
  go_wp2_with fail
  refine bodyPost_ret (v := .tuple #[rv 0 L 0 H, .int .i64 f]) (by simp [results, Tryz.results12, go_sem, rv, q0, q1, q2, q3]) rfl ⟨rfl, ?_⟩
  exact ((((bt (ba (Below.refl _ _) _) hB).setCell (Nat.le_refl _) _).setCell (Nat.le_refl _) _).setCell (Nat.le_refl _) _).setCell (Nat.le_refl _) _
set_option maxHeartbeats 400000 in
set_option maxRecDepth 8000 in
theorem at2_walk (i lo hi f : Int) (w : World) (hs : CalOk w)
    (HA : ∀ W, CalOk W → Calls Tryz.prog 73 #[.int .i64 i] W fun r w' => r = .returned (.tuple #[.int .i64 lo, .int .i64 hi, .int .i64 f]) ∧ Below W.heap.size W w') :
    Calls Tryz.prog 12 #[.int .i64 i, .int .u8 2] w fun r w' => r = .returned (.tuple #[rv 0 (if f = 0 then lo else 0) 0 (if f = 0 then hi else 0), .int .i64 f]) ∧ Below w.heap.size w w' := by
  have HS := Lib.hid hs; clear hs
  replace HA := Lib.hid HA
  have K := kindsAt2
  unfold kindsV at K
  have F : ∀ w : World, (Instr.field 79 (.agg #[.func (.func 71) #[] #[], .func (.func 73) #[] #[]]) 1).run Tryz.prog w = .ok (.func (.func 73) #[] #[]) w := fun _ => by kernel_rfl
  have HR := fun W => unitsRun_flat lo hi f W
  generalize (if f = 0 then lo else 0) = L at HR ⊢
  generalize (if f = 0 then hi else 0) = H at HR ⊢
  replace HR := Lib.hid HR
  go_enter Tryz.func12, Tryz.ntmps12
  go_wp2_with (first | (go_at_call 36; refine (unitsKnown_any _ _ (by omega) (by omega)).mono ?_; rintro e w' ⟨rfl, rfl⟩))
  refine (kinds_any _).mono ?_; rintro _ w1 ⟨rfl, hb1⟩
  unfold kindsV
  go_wp2_with fail
  refine (HA.out _ (HS.out.below (bt (ba (Below.refl _ _) _) hb1))).mono ?_; rintro _ w2 ⟨rfl, hb2⟩
  go_wp2_with fail
  refine (HR.out _).mono ?_; rintro _ w3 ⟨rfl, hb3⟩
  have hB := bt (bt hb1 hb2) hb3
  obtain ⟨q0, q1, q2, q3, z0, z1, z2, z3⟩ := run_cells hB
  go_wp2_with fail
  refine bodyPost_ret (v := .tuple #[rv 0 L 0 H, .int .i64 f]) (by simp [results, Tryz.results12, go_sem, rv, q0, q1, q2, q3]) rfl ⟨rfl, ?_⟩
  exact ((((bt (ba (Below.refl _ _) _) hB).setCell (Nat.le_refl _) _).setCell (Nat.le_refl _) _).setCell (Nat.le_refl _) _).setCell (Nat.le_refl _) _
set_option maxHeartbeats 400000 in
set_option maxRecDepth 8000 in
theorem at3_walk (i lo hi f : Int) (w : World) (hs : CalOk w)
    (HA : ∀ W, CalOk W → Calls Tryz.prog 75 #[.int .i64 i] W fun r w' => r = .returned (.tuple #[.int .i64 lo, .int .i64 hi, .int .i64 f]) ∧ Below W.heap.size W w') :
    Calls Tryz.prog 12 #[.int .i64 i, .int .u8 3] w fun r w' => r = .returned (.tuple #[rv 0 (if f = 0 then lo else 0) 0 (if f = 0 then hi else 0), .int .i64 f]) ∧ Below w.heap.size w w' := by
  have HS := Lib.hid hs; clear hs
  replace HA := Lib.hid HA
  have K := kindsAt3
  unfold kindsV at K
  have F : ∀ w : World, (Instr.field 79 (.agg #[.func (.func 74) #[] #[], .func (.func 75) #[] #[]]) 1).run Tryz.prog w = .ok (.func (.func 75) #[] #[]) w := fun _ => by kernel_rfl
  have HR := fun W => unitsRun_flat lo hi f W
  generalize (if f = 0 then lo else 0) = L at HR ⊢
  generalize (if f = 0 then hi else 0) = H at HR ⊢
  replace HR := Lib.hid HR
  go_enter Tryz.func12, Tryz.ntmps12
  go_wp2_with (first | (go_at_call 36; refine (unitsKnown_any _ _ (by omega) (by omega)).mono ?_; rintro e w' ⟨rfl, rfl⟩))
  refine (kinds_any _).mono ?_; rintro _ w1 ⟨rfl, hb1⟩
  unfold kindsV
  go_wp2_with fail
  refine (HA.out _ (HS.out.below (bt (ba (Below.refl _ _) _) hb1))).mono ?_; rintro _ w2 ⟨rfl, hb2⟩
  go_wp2_with fail
  refine (HR.out _).mono ?_; rintro _ w3 ⟨rfl, hb3⟩
  have hB := bt (bt hb1 hb2) hb3
  obtain ⟨q0, q1, q2, q3, z0, z1, z2, z3⟩ := run_cells hB
  go_wp2_with fail
  refine bodyPost_ret (v := .tuple #[rv 0 L 0 H, .int .i64 f]) (by simp [results, Tryz.results12, go_sem, rv, q0, q1, q2, q3]) rfl ⟨rfl, ?_⟩
  exact ((((bt (ba (Below.refl _ _) _) hB).setCell (Nat.le_refl _) _).setCell (Nat.le_refl _) _).setCell (Nat.le_refl _) _).setCell (Nat.le_refl _) _
end Un
end Go.Proofs.YtipjmaimjchckaaGreatDoor

/-! THE WALKS of layer 23's program: At (joined), Next, Prev. -/
set_option linter.unusedSimpArgs false
set_option linter.unusedVariables false
namespace Go.Proofs.YtipjmaimjchckaaGreatDoor
open Go.RowKit
namespace Un
open Cal

/-- What At answers. -/
def atC (p i : Int) : Int × Int × Int := if p < 1 ∨ 3 < p then (0, 0, 18) else if p = 3 then (i, i, 0) else if p = 1 then (if -10000000000000000 ≤ i ∧ i ≤ 10000000000000000 then (st i, st (i + 1) - 1, 0) else (0, 0, 6)) else monthC i

theorem atNo_any (i p : Int) (w : World) (h0 : 0 ≤ p) (h1 : p < 256) (hp : p < 1 ∨ 3 < p) :
    Calls Tryz.prog 12 #[.int .i64 i, .int .u8 p] w fun r w' => r = .returned (.tuple #[rv 0 0 0 0, .int .i64 18]) ∧ Below w.heap.size w w' := by
  have t : decide (1 ≤ p ∧ p ≤ 3) = false := decide_eq_false (by omega)
  have HK := fun W => unitsKnown_any p W h0 h1
  rw [t] at HK
  replace HK := Lib.hid HK
  clear t hp
  go_enter Tryz.func12, Tryz.ntmps12
  go_wp2_with (first | (go_at_call 36; refine (HK.out _).mono ?_; rintro e w' ⟨rfl, rfl⟩))
  refine bodyPost_ret (v := .tuple #[rv 0 0 0 0, .int .i64 18]) (by simp [results, Tryz.results12, go_sem, rv]) rfl ⟨rfl, ?_⟩
  exact ba (Below.refl _ _) _

theorem monthC_zero (i : Int) : ((if (monthC i).2.2 = 0 then (monthC i).1 else 0) = (monthC i).1) ∧ ((if (monthC i).2.2 = 0 then (monthC i).2.1 else 0) = (monthC i).2.1) := by
  unfold monthC; split <;> simp

theorem at_any (p i : Int) (w : World) (hs : CalOk w) (h0 : -9223372036854775808 ≤ i) (h1 : i < 9223372036854775808) (p0 : 0 ≤ p) (p1 : p < 256) :
    Calls Tryz.prog 12 #[.int .i64 i, .int .u8 p] w fun r w' => r = .returned (.tuple #[rv 0 (atC p i).1 0 (atC p i).2.1, .int .i64 (atC p i).2.2]) ∧ Below w.heap.size w w' := by
  unfold atC
  by_cases hp : p < 1 ∨ 3 < p
  · rw [if_pos hp]; exact atNo_any i p w p0 p1 hp
  · rw [if_neg hp]
    obtain rfl | rfl | rfl : p = 1 ∨ p = 2 ∨ p = 3 := by omega
    · rw [if_neg (by omega), if_pos rfl]
      refine (at1_walk i _ _ _ w hs (fun W c => unitsYear_any i W c)).mono ?_
      rintro r w' ⟨rfl, hb⟩
      refine ⟨?_, hb⟩
      split <;> simp
    · rw [if_neg (by omega), if_neg (by omega)]
      refine (at2_walk i _ _ _ w hs (fun W c => unitsMonth_any i W c h0 h1)).mono ?_
      rintro r w' ⟨rfl, hb⟩
      rw [(monthC_zero i).1, (monthC_zero i).2]
      exact ⟨rfl, hb⟩
    · rw [if_pos rfl]
      refine (at3_walk i i i 0 w hs (fun W c => (kinds3_any i W).mono fun r w' ⟨h1, h2⟩ => ⟨h1, by rw [← h2]; exact Below.refl _ _⟩)).mono ?_
      rintro r w' ⟨rfl, hb⟩
      exact ⟨by simp, hb⟩

/-- What lies beside a unit: Next (by is 1), Prev (by is -1), the reference's Beside. -/
def besideC (p a lo b hi by_ lim : Int) : Int × Int × Int := if p < 1 ∨ 3 < p then (0, 0, 18) else if isC p a lo b hi then (if p = 3 ∧ lo = lim then (0, 0, 15) else atC p ((idxC p lo).1 + by_)) else (0, 0, 1)

theorem idxC_bd (p lo : Int) (h0 : -9223372036854775808 ≤ lo) (h1 : lo < 9223372036854775808) (hp : p ≠ 3) (hp2 : ¬ (p < 1 ∨ 3 < p)) : -120000000000000020 ≤ (idxC p lo).1 ∧ (idxC p lo).1 ≤ 120000000000000020 := by
  unfold idxC
  split
  · unfold yearOfC; split <;> (dsimp only; omega)
  · rw [if_pos (by omega)]
    have := monthOfC_bd lo
    dsimp only; omega
theorem isC_idx {p a lo b hi : Int} (h : isC p a lo b hi = true) (hp2 : ¬ (p < 1 ∨ 3 < p)) : (idxC p lo).2 = 0 := by
  unfold isC at h
  simp only [Bool.and_eq_true, decide_eq_true_eq] at h
  have he := h.2.1
  unfold holdAll at he
  rw [if_neg hp2] at he
  unfold idxC
  unfold holdC at he
  by_cases p3 : p = 3
  · subst p3; simp
  · rw [if_neg p3] at he
    by_cases hy : -10000000000000000 ≤ yof lo ∧ yof lo ≤ 10000000000000000
    · unfold yearOfC monthOfC
      rw [if_pos hy, if_pos hy]
      split
      · rfl
      · split <;> rfl
    · rw [if_neg hy] at he; exact absurd he (by decide)

theorem run_cells1 {w W : World} {o : Obj} {a lo b hi : Value} {t : TypeId} (h : Below ((w.alloc o).alloc (.cells #[a, lo, b, hi] t)).heap.size ((w.alloc o).alloc (.cells #[a, lo, b, hi] t)) W) :
    W.cell? ⟨w.heap.size + 1, 0, none⟩ = some a ∧ W.cell? ⟨w.heap.size + 1, 1, none⟩ = some lo ∧ W.cell? ⟨w.heap.size + 1, 2, none⟩ = some b ∧ W.cell? ⟨w.heap.size + 1, 3, none⟩ = some hi ∧
    W.frozen? ⟨w.heap.size + 1, 0, none⟩ = false ∧ W.frozen? ⟨w.heap.size + 1, 1, none⟩ = false ∧ W.frozen? ⟨w.heap.size + 1, 2, none⟩ = false ∧ W.frozen? ⟨w.heap.size + 1, 3, none⟩ = false := by
  have := run_cells h
  have e : (w.alloc o).heap.size = w.heap.size + 1 := by simp [go_sem]
  rw [e] at this
  exact this

theorem next_walk (p a lo b hi i e x y f : Int) (w : World) (hs : CalOk w) (h0 : -9223372036854775808 ≤ i) (h1 : i < 9223372036854775807)
    (HI : ∀ W, CalOk W → Calls Tryz.prog 44 #[rv a lo b hi, .int .u8 p] W fun r w' => r = .returned (.tuple #[.int .i64 i, .int .i64 e]) ∧ Below W.heap.size W w')
    (HA : e = 0 → ∀ W, CalOk W → Calls Tryz.prog 12 #[.int .i64 (i + 1), .int .u8 p] W fun r w' => r = .returned (.tuple #[rv 0 x 0 y, .int .i64 f]) ∧ Below W.heap.size W w') :
    Calls Tryz.prog 15 #[rv a lo b hi, .int .u8 p] w fun r w' => r = .returned (.tuple #[rv 0 (if e = 0 then x else 0) 0 (if e = 0 then y else 0), .int .i64 (if e = 0 then f else e)]) ∧ Below w.heap.size w w' := by
  replace HI := Lib.hid HI
  have HS := Lib.hid hs; clear hs
  have ti : (i == 9223372036854775807) = false := by rw [beq_eq_false_iff_ne]; omega
  unfold rv at HI ⊢
  by_cases he : e = 0
  · subst he
    replace HA := HA rfl
    unfold rv at HA
    replace HA := Lib.hid HA
    simp only [if_true]
    go_enter Tryz.func15, Tryz.ntmps15
    go_wp2_with fail
    refine (HI.out _ (HS.out.below (ba (ba (Below.refl _ _) _) _))).mono ?_; rintro _ w1 ⟨rfl, hb1⟩
    go_wp2_with fail
    refine (HA.out _ (HS.out.below (bt (ba (ba (Below.refl _ _) _) _) hb1))).mono ?_; rintro _ w2 ⟨rfl, hb2⟩
    have hB := bt hb1 hb2
    obtain ⟨q0, q1, q2, q3, z0, z1, z2, z3⟩ := run_cells1 hB
    go_wp2_with fail
    refine bodyPost_ret (v := .tuple #[rv 0 x 0 y, .int .i64 f]) (by simp [results, Tryz.results15, go_sem, rv, q0, q1, q2, q3]) rfl ⟨rfl, ?_⟩
    first | exact ((((bt (ba (ba (Below.refl _ _) _) _) hB).setCell (Nat.le_succ _) _).setCell (Nat.le_succ _) _).setCell (Nat.le_succ _) _).setCell (Nat.le_succ _) _ | exact bt (ba (ba (Below.refl _ _) _) _) hB
  · have t : (e != 0) = true := by rw [bne_iff_ne]; exact he
    simp only [if_neg he]
    clear he HA
    go_enter Tryz.func15, Tryz.ntmps15
    go_wp2_with fail
    refine (HI.out _ (HS.out.below (ba (ba (Below.refl _ _) _) _))).mono ?_; rintro _ w1 ⟨rfl, hb1⟩
    obtain ⟨q0, q1, q2, q3, z0, z1, z2, z3⟩ := run_cells1 hb1
    go_wp2_with fail
    refine bodyPost_ret (v := .tuple #[rv 0 0 0 0, .int .i64 e]) (by simp [results, Tryz.results15, go_sem, rv, q0, q1, q2, q3]) rfl ⟨rfl, ?_⟩
    first | exact ((((bt (ba (ba (Below.refl _ _) _) _) hb1).setCell (Nat.le_succ _) _).setCell (Nat.le_succ _) _).setCell (Nat.le_succ _) _).setCell (Nat.le_succ _) _ | exact bt (ba (ba (Below.refl _ _) _) _) hb1

/-- Behind the last day, ahead of the first one. -/
theorem nextOver_walk (p a lo b hi : Int) (w : World) (hs : CalOk w)
    (HI : ∀ W, CalOk W → Calls Tryz.prog 44 #[rv a lo b hi, .int .u8 p] W fun r w' => r = .returned (.tuple #[.int .i64 (9223372036854775807), .int .i64 0]) ∧ Below W.heap.size W w') :
    Calls Tryz.prog 15 #[rv a lo b hi, .int .u8 p] w fun r w' => r = .returned (.tuple #[rv 0 0 0 0, .int .i64 15]) ∧ Below w.heap.size w w' := by
  replace HI := Lib.hid HI
  have HS := Lib.hid hs; clear hs
  unfold rv at HI ⊢
  go_enter Tryz.func15, Tryz.ntmps15
  go_wp2_with fail
  refine (HI.out _ (HS.out.below (ba (ba (Below.refl _ _) _) _))).mono ?_; rintro _ w1 ⟨rfl, hb1⟩
  obtain ⟨q0, q1, q2, q3, z0, z1, z2, z3⟩ := run_cells1 hb1
  go_wp2_with fail
  refine bodyPost_ret (v := .tuple #[rv 0 0 0 0, .int .i64 15]) (by simp [results, Tryz.results15, go_sem, rv, q0, q1, q2, q3]) rfl ⟨rfl, ?_⟩
  first | exact ((((bt (ba (ba (Below.refl _ _) _) _) hb1).setCell (Nat.le_succ _) _).setCell (Nat.le_succ _) _).setCell (Nat.le_succ _) _).setCell (Nat.le_succ _) _ | exact bt (ba (ba (Below.refl _ _) _) _) hb1

theorem next_any (p a lo b hi : Int) (w : World) (hs : CalOk w) (h0 : -9223372036854775808 ≤ lo) (h1 : lo < 9223372036854775808) (p0 : 0 ≤ p) (p1 : p < 256) :
    Calls Tryz.prog 15 #[rv a lo b hi, .int .u8 p] w fun r w' => r = .returned (.tuple #[rv 0 (besideC p a lo b hi (1) (9223372036854775807)).1 0 (besideC p a lo b hi (1) (9223372036854775807)).2.1, .int .i64 (besideC p a lo b hi (1) (9223372036854775807)).2.2]) ∧ Below w.heap.size w w' := by
  have HI := fun W c => index_any p a lo b hi W c h0 h1 p0 p1
  unfold indexC at HI
  unfold besideC
  by_cases hp : p < 1 ∨ 3 < p
  · simp only [if_pos hp] at HI ⊢
    have := next_walk p a lo b hi 0 18 0 0 0 w hs (by omega) (by omega) HI (fun h => absurd h (by omega))
    simpa using this
  · simp only [if_neg hp] at HI ⊢
    by_cases hi1 : isC p a lo b hi = true
    · simp only [if_pos hi1] at HI ⊢
      have hz := isC_idx hi1 hp
      rw [hz] at HI
      by_cases ho : p = 3 ∧ lo = 9223372036854775807
      · rw [if_pos ho]
        obtain ⟨rfl, rfl⟩ := ho
        exact nextOver_walk 3 a _ b hi w hs HI
      · rw [if_neg ho]
        have bd : -9223372036854775808 ≤ (idxC p lo).1 + (1) ∧ (idxC p lo).1 + (1) < 9223372036854775808 ∧ ((idxC p lo).1 < 9223372036854775807 ∧ -9223372036854775808 ≤ (idxC p lo).1) := by
          by_cases p3 : p = 3
          · subst p3
            have e : idxC 3 lo = (lo, 0) := by unfold idxC; simp
            rw [e]
            have hne : lo ≠ 9223372036854775807 := fun h => ho ⟨rfl, h⟩
            dsimp only; omega
          · have := idxC_bd p lo h0 h1 p3 hp; omega
        have HA := fun W c => at_any p ((idxC p lo).1 + (1)) W c (by omega) (by omega) p0 p1
        have := next_walk p a lo b hi (idxC p lo).1 0 _ _ _ w hs (by omega) (by omega) HI (fun _ => HA)
        simpa using this
    · simp only [if_neg hi1] at HI ⊢
      have := next_walk p a lo b hi 0 1 0 0 0 w hs (by omega) (by omega) HI (fun h => absurd h (by omega))
      simpa using this
theorem prev_walk (p a lo b hi i e x y f : Int) (w : World) (hs : CalOk w) (h0 : -9223372036854775808 < i) (h1 : i < 9223372036854775808)
    (HI : ∀ W, CalOk W → Calls Tryz.prog 44 #[rv a lo b hi, .int .u8 p] W fun r w' => r = .returned (.tuple #[.int .i64 i, .int .i64 e]) ∧ Below W.heap.size W w')
    (HA : e = 0 → ∀ W, CalOk W → Calls Tryz.prog 12 #[.int .i64 (i - 1), .int .u8 p] W fun r w' => r = .returned (.tuple #[rv 0 x 0 y, .int .i64 f]) ∧ Below W.heap.size W w') :
    Calls Tryz.prog 16 #[rv a lo b hi, .int .u8 p] w fun r w' => r = .returned (.tuple #[rv 0 (if e = 0 then x else 0) 0 (if e = 0 then y else 0), .int .i64 (if e = 0 then f else e)]) ∧ Below w.heap.size w w' := by
  replace HI := Lib.hid HI
  have HS := Lib.hid hs; clear hs
  have ti : (i == -9223372036854775808) = false := by rw [beq_eq_false_iff_ne]; omega
  unfold rv at HI ⊢
  by_cases he : e = 0
  · subst he
    replace HA := HA rfl
    unfold rv at HA
    replace HA := Lib.hid HA
    simp only [if_true]
    go_enter Tryz.func16, Tryz.ntmps16
    go_wp2_with fail
    refine (HI.out _ (HS.out.below (ba (ba (Below.refl _ _) _) _))).mono ?_; rintro _ w1 ⟨rfl, hb1⟩
    go_wp2_with fail
    refine (HA.out _ (HS.out.below (bt (ba (ba (Below.refl _ _) _) _) hb1))).mono ?_; rintro _ w2 ⟨rfl, hb2⟩
    have hB := bt hb1 hb2
    obtain ⟨q0, q1, q2, q3, z0, z1, z2, z3⟩ := run_cells1 hB
    go_wp2_with fail
    refine bodyPost_ret (v := .tuple #[rv 0 x 0 y, .int .i64 f]) (by simp [results, Tryz.results16, go_sem, rv, q0, q1, q2, q3]) rfl ⟨rfl, ?_⟩
    first | exact ((((bt (ba (ba (Below.refl _ _) _) _) hB).setCell (Nat.le_succ _) _).setCell (Nat.le_succ _) _).setCell (Nat.le_succ _) _).setCell (Nat.le_succ _) _ | exact bt (ba (ba (Below.refl _ _) _) _) hB
  · have t : (e != 0) = true := by rw [bne_iff_ne]; exact he
    simp only [if_neg he]
    clear he HA
    go_enter Tryz.func16, Tryz.ntmps16
    go_wp2_with fail
    refine (HI.out _ (HS.out.below (ba (ba (Below.refl _ _) _) _))).mono ?_; rintro _ w1 ⟨rfl, hb1⟩
    obtain ⟨q0, q1, q2, q3, z0, z1, z2, z3⟩ := run_cells1 hb1
    go_wp2_with fail
    refine bodyPost_ret (v := .tuple #[rv 0 0 0 0, .int .i64 e]) (by simp [results, Tryz.results16, go_sem, rv, q0, q1, q2, q3]) rfl ⟨rfl, ?_⟩
    first | exact ((((bt (ba (ba (Below.refl _ _) _) _) hb1).setCell (Nat.le_succ _) _).setCell (Nat.le_succ _) _).setCell (Nat.le_succ _) _).setCell (Nat.le_succ _) _ | exact bt (ba (ba (Below.refl _ _) _) _) hb1

/-- Behind the last day, ahead of the first one. -/
theorem prevOver_walk (p a lo b hi : Int) (w : World) (hs : CalOk w)
    (HI : ∀ W, CalOk W → Calls Tryz.prog 44 #[rv a lo b hi, .int .u8 p] W fun r w' => r = .returned (.tuple #[.int .i64 (-9223372036854775808), .int .i64 0]) ∧ Below W.heap.size W w') :
    Calls Tryz.prog 16 #[rv a lo b hi, .int .u8 p] w fun r w' => r = .returned (.tuple #[rv 0 0 0 0, .int .i64 15]) ∧ Below w.heap.size w w' := by
  replace HI := Lib.hid HI
  have HS := Lib.hid hs; clear hs
  unfold rv at HI ⊢
  go_enter Tryz.func16, Tryz.ntmps16
  go_wp2_with fail
  refine (HI.out _ (HS.out.below (ba (ba (Below.refl _ _) _) _))).mono ?_; rintro _ w1 ⟨rfl, hb1⟩
  obtain ⟨q0, q1, q2, q3, z0, z1, z2, z3⟩ := run_cells1 hb1
  go_wp2_with fail
  refine bodyPost_ret (v := .tuple #[rv 0 0 0 0, .int .i64 15]) (by simp [results, Tryz.results16, go_sem, rv, q0, q1, q2, q3]) rfl ⟨rfl, ?_⟩
  first | exact ((((bt (ba (ba (Below.refl _ _) _) _) hb1).setCell (Nat.le_succ _) _).setCell (Nat.le_succ _) _).setCell (Nat.le_succ _) _).setCell (Nat.le_succ _) _ | exact bt (ba (ba (Below.refl _ _) _) _) hb1

theorem prev_any (p a lo b hi : Int) (w : World) (hs : CalOk w) (h0 : -9223372036854775808 ≤ lo) (h1 : lo < 9223372036854775808) (p0 : 0 ≤ p) (p1 : p < 256) :
    Calls Tryz.prog 16 #[rv a lo b hi, .int .u8 p] w fun r w' => r = .returned (.tuple #[rv 0 (besideC p a lo b hi (-1) (-9223372036854775808)).1 0 (besideC p a lo b hi (-1) (-9223372036854775808)).2.1, .int .i64 (besideC p a lo b hi (-1) (-9223372036854775808)).2.2]) ∧ Below w.heap.size w w' := by
  have HI := fun W c => index_any p a lo b hi W c h0 h1 p0 p1
  unfold indexC at HI
  unfold besideC
  by_cases hp : p < 1 ∨ 3 < p
  · simp only [if_pos hp] at HI ⊢
    have := prev_walk p a lo b hi 0 18 0 0 0 w hs (by omega) (by omega) HI (fun h => absurd h (by omega))
    simpa using this
  · simp only [if_neg hp] at HI ⊢
    by_cases hi1 : isC p a lo b hi = true
    · simp only [if_pos hi1] at HI ⊢
      have hz := isC_idx hi1 hp
      rw [hz] at HI
      by_cases ho : p = 3 ∧ lo = -9223372036854775808
      · rw [if_pos ho]
        obtain ⟨rfl, rfl⟩ := ho
        exact prevOver_walk 3 a _ b hi w hs HI
      · rw [if_neg ho]
        have bd : -9223372036854775808 ≤ (idxC p lo).1 + (-1) ∧ (idxC p lo).1 + (-1) < 9223372036854775808 ∧ (-9223372036854775808 < (idxC p lo).1 ∧ (idxC p lo).1 < 9223372036854775808) := by
          by_cases p3 : p = 3
          · subst p3
            have e : idxC 3 lo = (lo, 0) := by unfold idxC; simp
            rw [e]
            have hne : lo ≠ -9223372036854775808 := fun h => ho ⟨rfl, h⟩
            dsimp only; omega
          · have := idxC_bd p lo h0 h1 p3 hp; omega
        have HA := fun W c => at_any p ((idxC p lo).1 + (-1)) W c (by omega) (by omega) p0 p1
        have := prev_walk p a lo b hi (idxC p lo).1 0 _ _ _ w hs (by omega) (by omega) HI (fun _ => HA)
        simpa using this
    · simp only [if_neg hi1] at HI ⊢
      have := prev_walk p a lo b hi 0 1 0 0 0 w hs (by omega) (by omega) HI (fun h => absurd h (by omega))
      simpa using this
end Un
end Go.Proofs.YtipjmaimjchckaaGreatDoor

