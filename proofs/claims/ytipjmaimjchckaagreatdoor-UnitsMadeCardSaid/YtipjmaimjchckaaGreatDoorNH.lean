/- THE WALKS of layer 23's program: the small functions of units. -/
import Derived.Test.YtipjmaimjchckaaGreatDoorMG
import Derived.Laws.EntriesVeiled
/-! THE WALKS of layer 23's program: the small functions of units. -/
set_option linter.unusedSimpArgs false
set_option linter.unusedVariables false
namespace Go.Proofs.YtipjmaimjchckaaGreatDoor
open Go.RowKit
namespace Un
open Cal

/-- A run of days, as a value. -/
def rv (a lo b hi : Int) : Value := .agg #[.int .i8 a, .int .i64 lo, .int .i8 b, .int .i64 hi]

theorem unitsBoth_any (lo e hi f : Int) (w : World) :
    Calls Tryz.prog 104 #[.int .i64 lo, .int .i64 e, .int .i64 hi, .int .i64 f] w fun r w' => r = .returned (.tuple #[.int .i64 (if e = 0 then (if f = 0 then lo else 0) else 0), .int .i64 (if e = 0 then (if f = 0 then hi else 0) else 0), .int .i64 (if e = 0 then f else e)]) ∧ w = w' := by
  by_cases he : e = 0
  · subst he
    by_cases hf : f = 0
    · subst hf
      go_enter Tryz.func104, Tryz.ntmps104
      go_wp2
      go_ret3
      exact ⟨ret3_iii (by simp) (by simp) (by simp), rfl⟩
    · have t : (f != 0) = true := by rw [bne_iff_ne]; exact hf
      have HF := Lib.hid hf; clear hf
      go_enter Tryz.func104, Tryz.ntmps104
      go_wp2
      go_ret3
      exact ⟨ret3_iii (by simp [HF.out]) (by simp [HF.out]) (by simp), rfl⟩
  · have t : (e != 0) = true := by rw [bne_iff_ne]; exact he
    have HE := Lib.hid he; clear he
    go_enter Tryz.func104, Tryz.ntmps104
    go_wp2
    go_ret3
    exact ⟨ret3_iii (by simp [HE.out]) (by simp [HE.out]) (by simp [HE.out]), rfl⟩

theorem unitsRun_any (lo hi e : Int) (w : World) :
    Calls Tryz.prog 38 #[.int .i64 lo, .int .i64 hi, .int .i64 e] w fun r w' => r = .returned (.tuple #[if e = 0 then rv 0 lo 0 hi else rv 0 0 0 0, .int .i64 e]) ∧ Below w.heap.size w w' := by
  by_cases he : e = 0
  · subst he
    go_enter Tryz.func38, Tryz.ntmps38
    go_wp2
    refine bodyPost_ret (v := .tuple #[rv 0 lo 0 hi, .int .i64 0]) (by simp [results, Tryz.results38, go_sem, rv]) rfl ⟨by simp, ba (Below.refl _ _) _⟩
  · have t : (e != 0) = true := by rw [bne_iff_ne]; exact he
    have HE := Lib.hid he; clear he
    go_enter Tryz.func38, Tryz.ntmps38
    go_wp2
    refine bodyPost_ret (v := .tuple #[rv 0 0 0 0, .int .i64 e]) (by simp [results, Tryz.results38, go_sem, rv]) rfl ⟨by simp [HE.out], ba (Below.refl _ _) _⟩

theorem unitsYear_any (y : Int) (w : World) (hs : CalOk w) :
    Calls Tryz.prog 70 #[.int .i64 y] w fun r w' => r = .returned (.tuple #[.int .i64 (if -10000000000000000 ≤ y ∧ y ≤ 10000000000000000 then st y else 0), .int .i64 (if -10000000000000000 ≤ y ∧ y ≤ 10000000000000000 then st (y + 1) - 1 else 0), .int .i64 (if -10000000000000000 ≤ y ∧ y ≤ 10000000000000000 then 0 else 6)]) ∧ Below w.heap.size w w' := by
  by_cases c : -10000000000000000 ≤ y ∧ y ≤ 10000000000000000
  · rw [if_pos c, if_pos c, if_pos c]
    obtain ⟨c0, c1⟩ := c
    go_enter Tryz.func70, Tryz.ntmps70
    go_wp2_with fail
    refine (yearsStart_ok _ _ hs.steps (by omega) (by omega)).mono ?_; rintro e w1 ⟨rfl, hb1⟩
    go_wp2_with fail
    refine (yearsEnd_ok _ _ (hs.below hb1).steps (by omega) (by omega)).mono ?_; rintro e w2 ⟨rfl, hb2⟩
    go_wp2_with (go_at_call 104; refine (unitsBoth_any _ _ _ _ _).mono ?_; rintro e w' ⟨rfl, rfl⟩)
    go_ret3
    exact ⟨ret3_iii (by simp) (by simp) (by simp), bt hb1 hb2⟩
  · rw [if_neg c, if_neg c, if_neg c]
    have C : Hid (y < -10000000000000000 ∨ 10000000000000000 < y) := Lib.hid (by omega)
    clear c
    go_enter Tryz.func70, Tryz.ntmps70
    go_wp2_with (first | (go_at_call 102; refine (yearsStart_no _ _ C.out).mono ?_; rintro e w' ⟨rfl, rfl⟩) | (go_at_call 103; refine (yearsEnd_no _ _ C.out).mono ?_; rintro e w' ⟨rfl, rfl⟩) | (go_at_call 104; refine (unitsBoth_any _ _ _ _ _).mono ?_; rintro e w' ⟨rfl, rfl⟩))
    go_ret3
    exact ⟨ret3_iii (by simp) (by simp) (by simp), Below.refl _ _⟩

/-- The days of the month with an index, and the error. -/
def monthC (i : Int) : Int × Int × Int := if -10000000000000000 ≤ i / 12 ∧ i / 12 ≤ 10000000000000000 then (st (i / 12) + cum (i / 12) (i % 12 + 1), st (i / 12) + cum (i / 12) (i % 12 + 2) - 1, 0) else (0, 0, 6)

theorem startBoth (y m : Int) (m0 : 1 ≤ m) (m1 : m ≤ 12) :
    ∃ sv ev er : Int, (∀ W, CalOk W → Calls Tryz.prog 106 #[.int .i64 y, .int .i64 m] W fun e w' => e = .returned (.tuple #[.int .i64 sv, .int .i64 er]) ∧ Below W.heap.size W w') ∧
      (∀ W, CalOk W → Calls Tryz.prog 107 #[.int .i64 y, .int .i64 m] W fun e w' => e = .returned (.tuple #[.int .i64 ev, .int .i64 er]) ∧ Below W.heap.size W w') ∧
      ((er = 0 ∧ (if -10000000000000000 ≤ y ∧ y ≤ 10000000000000000 then (st y + cum y m, st y + cum y (m + 1) - 1, (0 : Int)) else (0, 0, 6)) = (sv, ev, 0)) ∨ (er = 6 ∧ (if -10000000000000000 ≤ y ∧ y ≤ 10000000000000000 then (st y + cum y m, st y + cum y (m + 1) - 1, (0 : Int)) else (0, 0, 6)) = (0, 0, 6))) := by
  by_cases c : -10000000000000000 ≤ y ∧ y ≤ 10000000000000000
  · exact ⟨_, _, 0, fun W h => monthsStart_ok y m W h c.1 c.2 m0 m1, fun W h => monthsEnd_ok y m W h c.1 c.2 m0 m1, Or.inl ⟨rfl, by rw [if_pos c]⟩⟩
  · have e : mErr y m = 6 := by unfold mErr; rw [if_neg c]
    refine ⟨0, 0, 6, fun W h => (monthsStart_no y m W (by rw [e]; decide)).mono fun r w' ⟨h1, h2⟩ => ⟨by rw [h1, e], by rw [← h2]; exact Below.refl _ _⟩, fun W h => (monthsEnd_no y m W (by rw [e]; decide)).mono fun r w' ⟨h1, h2⟩ => ⟨by rw [h1, e], by rw [← h2]; exact Below.refl _ _⟩, Or.inr ⟨rfl, by rw [if_neg c]⟩⟩

/-- The walk of units.month, where the error is a known one. -/
theorem month_walk (i sv ev er : Int) (w : World) (hs : CalOk w) (h0 : -9223372036854775808 ≤ i) (h1 : i < 9223372036854775808)
    (HS : ∀ W, CalOk W → Calls Tryz.prog 106 #[.int .i64 (i / 12), .int .i64 (i % 12 + 1)] W fun e w' => e = .returned (.tuple #[.int .i64 sv, .int .i64 er]) ∧ Below W.heap.size W w')
    (HE : ∀ W, CalOk W → Calls Tryz.prog 107 #[.int .i64 (i / 12), .int .i64 (i % 12 + 1)] W fun e w' => e = .returned (.tuple #[.int .i64 ev, .int .i64 er]) ∧ Below W.heap.size W w') (hz : er = 0 ∨ er = 6) :
    Calls Tryz.prog 73 #[.int .i64 i] w fun r w' => r = .returned (.tuple #[.int .i64 (if er = 0 then sv else 0), .int .i64 (if er = 0 then ev else 0), .int .i64 er]) ∧ Below w.heap.size w w' := by
  obtain ⟨c1, c2, c3⟩ := @div_cases i 12 (by omega)
  have HW := Lib.hid hs; clear hs
  by_cases hi : 0 ≤ i
  · have t : ¬ i % 12 < 0 := by omega
    have HS := Lib.hid HS; have HE := Lib.hid HE
    clear c1 c2 c3
    rcases hz with rfl | rfl
    · go_enter Tryz.func73, Tryz.ntmps73
      go_wp2_with fail
      refine (HS.out _ HW.out).mono ?_; rintro e w1 ⟨rfl, hb1⟩
      go_wp2_with fail
      refine (HE.out _ (HW.out.below hb1)).mono ?_; rintro e w2 ⟨rfl, hb2⟩
      go_wp2_with (go_at_call 104; refine (unitsBoth_any _ _ _ _ _).mono ?_; rintro e w' ⟨rfl, rfl⟩)
      go_ret3
      exact ⟨ret3_iii (by simp) (by simp) (by simp), bt hb1 hb2⟩
    · go_enter Tryz.func73, Tryz.ntmps73
      go_wp2_with fail
      refine (HS.out _ HW.out).mono ?_; rintro e w1 ⟨rfl, hb1⟩
      go_wp2_with fail
      refine (HE.out _ (HW.out.below hb1)).mono ?_; rintro e w2 ⟨rfl, hb2⟩
      go_wp2_with (go_at_call 104; refine (unitsBoth_any _ _ _ _ _).mono ?_; rintro e w' ⟨rfl, rfl⟩)
      go_ret3
      exact ⟨ret3_iii (by simp) (by simp) (by simp), bt hb1 hb2⟩
  · by_cases hz' : i.tmod 12 = 0
    · obtain ⟨e1, e2⟩ := c2 (Or.inl hz')
      have t : decide (i.tmod 12 < 0) = false := decide_eq_false (by omega)
      have k0 : -768614336404564652 ≤ i.tdiv 12 := by omega
      have k1 : i.tdiv 12 ≤ 768614336404564651 := by omega
      rw [← e1, ← e2] at HS HE
      have k2 : -12 ≤ i.tmod 12 := by omega
      have k3 : i.tmod 12 < 12 := by omega
      have HS := Lib.hid HS; have HE := Lib.hid HE
      clear c1 c2 c3 hz' e1 e2
      rcases hz with rfl | rfl
      · go_enter Tryz.func73, Tryz.ntmps73
        go_wp2_with fail
        refine (HS.out _ HW.out).mono ?_; rintro e w1 ⟨rfl, hb1⟩
        go_wp2_with fail
        refine (HE.out _ (HW.out.below hb1)).mono ?_; rintro e w2 ⟨rfl, hb2⟩
        go_wp2_with (go_at_call 104; refine (unitsBoth_any _ _ _ _ _).mono ?_; rintro e w' ⟨rfl, rfl⟩)
        go_ret3
        exact ⟨ret3_iii (by simp) (by simp) (by simp), bt hb1 hb2⟩
      · go_enter Tryz.func73, Tryz.ntmps73
        go_wp2_with fail
        refine (HS.out _ HW.out).mono ?_; rintro e w1 ⟨rfl, hb1⟩
        go_wp2_with fail
        refine (HE.out _ (HW.out.below hb1)).mono ?_; rintro e w2 ⟨rfl, hb2⟩
        go_wp2_with (go_at_call 104; refine (unitsBoth_any _ _ _ _ _).mono ?_; rintro e w' ⟨rfl, rfl⟩)
        go_ret3
        exact ⟨ret3_iii (by simp) (by simp) (by simp), bt hb1 hb2⟩
    · obtain ⟨e1, e2⟩ := c1 ⟨hz', by omega⟩
      have hneg := (c3 hz').2 (by omega)
      have t : decide (i.tmod 12 < 0) = true := decide_eq_true hneg
      have k0 : -768614336404564651 ≤ i.tdiv 12 := by omega
      have k1 : i.tdiv 12 ≤ 768614336404564651 := by omega
      rw [← e1, ← e2] at HS HE
      have k2 : -12 ≤ i.tmod 12 := by omega
      have k3 : i.tmod 12 < 12 := by omega
      have HS := Lib.hid HS; have HE := Lib.hid HE
      clear c1 c2 c3 hz' e1 e2
      rcases hz with rfl | rfl
      · go_enter Tryz.func73, Tryz.ntmps73
        go_wp2_with fail
        refine (HS.out _ HW.out).mono ?_; rintro e w1 ⟨rfl, hb1⟩
        go_wp2_with fail
        refine (HE.out _ (HW.out.below hb1)).mono ?_; rintro e w2 ⟨rfl, hb2⟩
        go_wp2_with (go_at_call 104; refine (unitsBoth_any _ _ _ _ _).mono ?_; rintro e w' ⟨rfl, rfl⟩)
        go_ret3
        exact ⟨ret3_iii (by simp) (by simp) (by simp), bt hb1 hb2⟩
      · go_enter Tryz.func73, Tryz.ntmps73
        go_wp2_with fail
        refine (HS.out _ HW.out).mono ?_; rintro e w1 ⟨rfl, hb1⟩
        go_wp2_with fail
        refine (HE.out _ (HW.out.below hb1)).mono ?_; rintro e w2 ⟨rfl, hb2⟩
        go_wp2_with (go_at_call 104; refine (unitsBoth_any _ _ _ _ _).mono ?_; rintro e w' ⟨rfl, rfl⟩)
        go_ret3
        exact ⟨ret3_iii (by simp) (by simp) (by simp), bt hb1 hb2⟩

theorem unitsMonth_any (i : Int) (w : World) (hs : CalOk w) (h0 : -9223372036854775808 ≤ i) (h1 : i < 9223372036854775808) :
    Calls Tryz.prog 73 #[.int .i64 i] w fun r w' => r = .returned (.tuple #[.int .i64 (monthC i).1, .int .i64 (monthC i).2.1, .int .i64 (monthC i).2.2]) ∧ Below w.heap.size w w' := by
  obtain ⟨sv, ev, er, HS, HE, HR⟩ := startBoth (i / 12) (i % 12 + 1) (by omega) (by omega)
  rw [show i % 12 + 1 + 1 = i % 12 + 2 by omega] at HR
  unfold monthC
  rcases HR with ⟨he, hC⟩ | ⟨he, hC⟩
  · rw [hC]
    have h := month_walk i sv ev er w hs h0 h1 HS HE (Or.inl he)
    rw [if_pos he, if_pos he, he] at h; exact h
  · rw [hC]
    have h := month_walk i sv ev er w hs h0 h1 HS HE (Or.inr he)
    rw [if_neg (by omega), if_neg (by omega), he] at h; exact h
end Un
end Go.Proofs.YtipjmaimjchckaaGreatDoor

/-! THE WALKS of layer 23's program: kinds and what is built on them. -/
set_option linter.unusedSimpArgs false
set_option linter.unusedVariables false
namespace Go.Proofs.YtipjmaimjchckaaGreatDoor
open Go.RowKit
namespace Un
open Cal

theorem unitsKnown_any (p : Int) (w : World) (h0 : 0 ≤ p) (h1 : p < 256) :
    Calls Tryz.prog 36 #[.int .u8 p] w fun r w' => r = .returned (.bool (decide (1 ≤ p ∧ p ≤ 3))) ∧ w = w' := by
  by_cases a : 1 ≤ p
  · go_enter Tryz.func36, Tryz.ntmps36
    go_wp2
    go_ret
    exact ⟨by simp [a], rfl⟩
  · have b : p < 1 := by omega
    have e : p = 0 := by omega
    subst e
    go_enter Tryz.func36, Tryz.ntmps36
    go_wp2
    go_ret
    exact ⟨by simp, rfl⟩

theorem kinds2_any (d : Int) (w : World) :
    Calls Tryz.prog 74 #[.int .i64 d] w fun r w' => r = .returned (.tuple #[.int .i64 d, .int .i64 0]) ∧ w = w' := by
  go_enter Tryz.func74, Tryz.ntmps74
  go_wp2
  go_ret2
  exact ⟨ret2_ii rfl rfl, rfl⟩

theorem kinds3_any (d : Int) (w : World) :
    Calls Tryz.prog 75 #[.int .i64 d] w fun r w' => r = .returned (.tuple #[.int .i64 d, .int .i64 d, .int .i64 0]) ∧ w = w' := by
  go_enter Tryz.func75, Tryz.ntmps75
  go_wp2
  go_ret3
  exact ⟨ret3_iii rfl rfl rfl, rfl⟩

/-- The table of kinds, as a value. -/
def kindsV : Value := .agg #[.nilFunc, .nilFunc, .func (.func 69) #[] #[], .func (.func 70) #[] #[], .func (.func 71) #[] #[], .func (.func 73) #[] #[], .func (.func 74) #[] #[], .func (.func 75) #[] #[]]

theorem kinds_any (w : World) :
    Calls Tryz.prog 37 #[] w fun r w' => r = .returned kindsV ∧ Below w.heap.size w w' := by
  go_enter Tryz.func37, Tryz.ntmps37
  go_wp2
  refine bodyPost_ret (v := kindsV) (by simp [results, Tryz.results37, go_sem, kindsV]) rfl ⟨rfl, ba (Below.refl _ _) _⟩
theorem monthOfC_bd (d : Int) : -10000000000000000 ≤ (monthOfC d).1 ∧ (monthOfC d).1 ≤ 10000000000000000 ∧ 0 ≤ (monthOfC d).2.1 ∧ (monthOfC d).2.1 ≤ 12 := by
  unfold monthOfC
  split
  · next h =>
    obtain ⟨s1, s2⟩ := yof_spec d
    have := @mof_spec (yof d) (d - st (yof d)) (by omega) (by have := st_succ (yof d); omega)
    exact ⟨h.1, h.2, by dsimp only; omega, by dsimp only; omega⟩
  · decide

theorem kinds1_any (d : Int) (w : World) (hs : CalOk w) (h0 : -9223372036854775808 ≤ d) (h1 : d < 9223372036854775808) :
    Calls Tryz.prog 71 #[.int .i64 d] w fun r w' => r = .returned (.tuple #[.int .i64 (12 * (monthOfC d).1 + (monthOfC d).2.1 - 1), .int .i64 (monthOfC d).2.2]) ∧ Below w.heap.size w w' := by
  have HY := Lib.hid (monthsOf_any d w hs h0 h1)
  clear hs
  have hk := monthOfC_bd d
  generalize monthOfC d = q at HY hk ⊢
  obtain ⟨y, m, e⟩ := q
  obtain ⟨k0, k1, k2, k3⟩ := hk
  dsimp only at k0 k1 k2 k3 ⊢
  go_enter Tryz.func71, Tryz.ntmps71
  go_wp2_with fail
  refine HY.out.mono ?_; rintro e w1 ⟨rfl, hb1⟩
  go_wp2
  go_ret2
  exact ⟨ret2_ii (by simp) rfl, hb1⟩

theorem kindsAt1 (w : World) : (Instr.index 80 kindsV (.int .u8 1)).run Tryz.prog w = .ok (.agg #[.func (.func 69) #[] #[], .func (.func 70) #[] #[]]) w := by kernel_rfl
theorem kindsAt2 (w : World) : (Instr.index 80 kindsV (.int .u8 2)).run Tryz.prog w = .ok (.agg #[.func (.func 71) #[] #[], .func (.func 73) #[] #[]]) w := by kernel_rfl
theorem kindsAt3 (w : World) : (Instr.index 80 kindsV (.int .u8 3)).run Tryz.prog w = .ok (.agg #[.func (.func 74) #[] #[], .func (.func 75) #[] #[]]) w := by kernel_rfl

theorem unitsRun_flat (lo hi e : Int) (w : World) :
    Calls Tryz.prog 38 #[.int .i64 lo, .int .i64 hi, .int .i64 e] w fun r w' => r = .returned (.tuple #[.agg #[.int .i8 0, .int .i64 (if e = 0 then lo else 0), .int .i8 0, .int .i64 (if e = 0 then hi else 0)], .int .i64 e]) ∧ Below w.heap.size w w' := by
  refine (unitsRun_any lo hi e w).mono fun r w' ⟨h1, h2⟩ => ⟨?_, h2⟩
  rw [h1]
  by_cases he : e = 0
  · rw [if_pos he, if_pos he, if_pos he]; rfl
  · rw [if_neg he, if_neg he, if_neg he]; rfl

/-- The cells of a run that was made first read as they did. -/
theorem run_cells {w W : World} {a lo b hi : Value} {t : TypeId} (h : Below (w.alloc (.cells #[a, lo, b, hi] t)).heap.size (w.alloc (.cells #[a, lo, b, hi] t)) W) :
    W.cell? ⟨w.heap.size, 0, none⟩ = some a ∧ W.cell? ⟨w.heap.size, 1, none⟩ = some lo ∧ W.cell? ⟨w.heap.size, 2, none⟩ = some b ∧ W.cell? ⟨w.heap.size, 3, none⟩ = some hi ∧
    W.frozen? ⟨w.heap.size, 0, none⟩ = false ∧ W.frozen? ⟨w.heap.size, 1, none⟩ = false ∧ W.frozen? ⟨w.heap.size, 2, none⟩ = false ∧ W.frozen? ⟨w.heap.size, 3, none⟩ = false := by
  refine ⟨?_, ?_, ?_, ?_, ?_, ?_, ?_, ?_⟩
  · rw [h.cell (by simp)]; simp [go_sem]
  · rw [h.cell (by simp)]; simp [go_sem]
  · rw [h.cell (by simp)]; simp [go_sem]
  · rw [h.cell (by simp)]; simp [go_sem]
  · rw [h.frozen (by simp)]; simp [go_sem]
  · rw [h.frozen (by simp)]; simp [go_sem]
  · rw [h.frozen (by simp)]; simp [go_sem]
  · rw [h.frozen (by simp)]; simp [go_sem]

set_option maxHeartbeats 400000 in
set_option maxRecDepth 8000 in
theorem holding1_walk (d i e lo hi f : Int) (w : World) (hs : CalOk w)
    (HI : ∀ W, CalOk W → Calls Tryz.prog 69 #[.int .i64 d] W fun r w' => r = .returned (.tuple #[.int .i64 i, .int .i64 e]) ∧ Below W.heap.size W w')
    (HA : ∀ W, CalOk W → Calls Tryz.prog 70 #[.int .i64 i] W fun r w' => r = .returned (.tuple #[.int .i64 lo, .int .i64 hi, .int .i64 f]) ∧ Below W.heap.size W w') :
    Calls Tryz.prog 8 #[.int .i64 d, .int .u8 1] w fun r w' => r = .returned (.tuple #[rv 0 (if e = 0 then (if f = 0 then lo else 0) else 0) 0 (if e = 0 then (if f = 0 then hi else 0) else 0), .int .i64 (if e = 0 then f else e)]) ∧ Below w.heap.size w w' := by
  replace HI := Lib.hid HI
  replace HA := Lib.hid HA
  have HS := Lib.hid hs; clear hs
  have K := kindsAt1
  unfold kindsV at K
  by_cases he : e = 0
  · subst he
    rw [if_pos rfl, if_pos rfl, if_pos rfl]
    have HR := fun W => unitsRun_flat lo hi f W
    generalize (if f = 0 then lo else 0) = L at HR ⊢
    generalize (if f = 0 then hi else 0) = H at HR ⊢
    replace HR := Lib.hid HR
    go_enter Tryz.func8, Tryz.ntmps8
    go_wp2_with (first | (go_at_call 36; refine (unitsKnown_any _ _ (by omega) (by omega)).mono ?_; rintro e w' ⟨rfl, rfl⟩))
    refine (kinds_any _).mono ?_; rintro e w1 ⟨rfl, hb1⟩
    unfold kindsV
    go_wp2_with fail
    have c1 : CalOk (w1.alloc (.cells #[.func (.func 69) #[] #[], .func (.func 70) #[] #[]] 79)) := HS.out.below (ba (bt (ba (Below.refl _ _) _) hb1) _)
    refine (HI.out _ c1).mono ?_; rintro e w2 ⟨rfl, hb2⟩
    have r1 : w2.cell? ⟨w1.heap.size, 1, none⟩ = some (.func (.func 70) #[] #[]) := by
      rw [hb2.cell (by simp)]; simp [go_sem]
    go_wp2_with fail
    refine (HA.out _ (c1.below hb2)).mono ?_; rintro e w3 ⟨rfl, hb3⟩
    go_wp2_with fail
    refine (HR.out _).mono ?_; rintro e w4 ⟨rfl, hb4⟩
    have hB := bt (bt (bt (ba hb1 _) hb2) hb3) hb4
    obtain ⟨q0, q1, q2, q3, z0, z1, z2, z3⟩ := run_cells hB
    go_wp2_with fail
    refine bodyPost_ret (v := .tuple #[rv 0 L 0 H, .int .i64 f]) (by simp [results, Tryz.results8, go_sem, rv, q0, q1, q2, q3]) rfl ⟨rfl, ?_⟩
    exact ((((bt (ba (Below.refl _ _) _) hB).setCell (Nat.le_refl _) _).setCell (Nat.le_refl _) _).setCell (Nat.le_refl _) _).setCell (Nat.le_refl _) _
  · have t : (e != 0) = true := by rw [bne_iff_ne]; exact he
    rw [if_neg he, if_neg he, if_neg he]
    go_enter Tryz.func8, Tryz.ntmps8
    go_wp2_with (first | (go_at_call 36; refine (unitsKnown_any _ _ (by omega) (by omega)).mono ?_; rintro e w' ⟨rfl, rfl⟩))
    refine (kinds_any _).mono ?_; rintro _ w1 ⟨rfl, hb1⟩
    unfold kindsV
    go_wp2_with fail
    have c1 : CalOk (w1.alloc (.cells #[.func (.func 69) #[] #[], .func (.func 70) #[] #[]] 79)) := HS.out.below (ba (bt (ba (Below.refl _ _) _) hb1) _)
    refine (HI.out _ c1).mono ?_; rintro _ w2 ⟨rfl, hb2⟩
    replace he := Lib.hid he
    have hB := bt (ba hb1 _) hb2
    obtain ⟨q0, q1, q2, q3, z0, z1, z2, z3⟩ := run_cells hB
    go_wp2_with fail
    refine bodyPost_ret (v := .tuple #[rv 0 0 0 0, .int .i64 e]) (by simp [results, Tryz.results8, go_sem, rv, q0, q1, q2, q3]) rfl ⟨rfl, ?_⟩
    exact ((((bt (ba (Below.refl _ _) _) hB).setCell (Nat.le_refl _) _).setCell (Nat.le_refl _) _).setCell (Nat.le_refl _) _).setCell (Nat.le_refl _) _
set_option maxHeartbeats 400000 in
set_option maxRecDepth 8000 in
theorem holding2_walk (d i e lo hi f : Int) (w : World) (hs : CalOk w)
    (HI : ∀ W, CalOk W → Calls Tryz.prog 71 #[.int .i64 d] W fun r w' => r = .returned (.tuple #[.int .i64 i, .int .i64 e]) ∧ Below W.heap.size W w')
    (HA : ∀ W, CalOk W → Calls Tryz.prog 73 #[.int .i64 i] W fun r w' => r = .returned (.tuple #[.int .i64 lo, .int .i64 hi, .int .i64 f]) ∧ Below W.heap.size W w') :
    Calls Tryz.prog 8 #[.int .i64 d, .int .u8 2] w fun r w' => r = .returned (.tuple #[rv 0 (if e = 0 then (if f = 0 then lo else 0) else 0) 0 (if e = 0 then (if f = 0 then hi else 0) else 0), .int .i64 (if e = 0 then f else e)]) ∧ Below w.heap.size w w' := by
  replace HI := Lib.hid HI
  replace HA := Lib.hid HA
  have HS := Lib.hid hs; clear hs
  have K := kindsAt2
  unfold kindsV at K
  by_cases he : e = 0
  · subst he
    rw [if_pos rfl, if_pos rfl, if_pos rfl]
    have HR := fun W => unitsRun_flat lo hi f W
    generalize (if f = 0 then lo else 0) = L at HR ⊢
    generalize (if f = 0 then hi else 0) = H at HR ⊢
    replace HR := Lib.hid HR
    go_enter Tryz.func8, Tryz.ntmps8
    go_wp2_with (first | (go_at_call 36; refine (unitsKnown_any _ _ (by omega) (by omega)).mono ?_; rintro e w' ⟨rfl, rfl⟩))
    refine (kinds_any _).mono ?_; rintro e w1 ⟨rfl, hb1⟩
    unfold kindsV
    go_wp2_with fail
    have c1 : CalOk (w1.alloc (.cells #[.func (.func 71) #[] #[], .func (.func 73) #[] #[]] 79)) := HS.out.below (ba (bt (ba (Below.refl _ _) _) hb1) _)
    refine (HI.out _ c1).mono ?_; rintro e w2 ⟨rfl, hb2⟩
    have r1 : w2.cell? ⟨w1.heap.size, 1, none⟩ = some (.func (.func 73) #[] #[]) := by
      rw [hb2.cell (by simp)]; simp [go_sem]
    go_wp2_with fail
    refine (HA.out _ (c1.below hb2)).mono ?_; rintro e w3 ⟨rfl, hb3⟩
    go_wp2_with fail
    refine (HR.out _).mono ?_; rintro e w4 ⟨rfl, hb4⟩
    have hB := bt (bt (bt (ba hb1 _) hb2) hb3) hb4
    obtain ⟨q0, q1, q2, q3, z0, z1, z2, z3⟩ := run_cells hB
    go_wp2_with fail
    refine bodyPost_ret (v := .tuple #[rv 0 L 0 H, .int .i64 f]) (by simp [results, Tryz.results8, go_sem, rv, q0, q1, q2, q3]) rfl ⟨rfl, ?_⟩
    exact ((((bt (ba (Below.refl _ _) _) hB).setCell (Nat.le_refl _) _).setCell (Nat.le_refl _) _).setCell (Nat.le_refl _) _).setCell (Nat.le_refl _) _
  · have t : (e != 0) = true := by rw [bne_iff_ne]; exact he
    rw [if_neg he, if_neg he, if_neg he]
    go_enter Tryz.func8, Tryz.ntmps8
    go_wp2_with (first | (go_at_call 36; refine (unitsKnown_any _ _ (by omega) (by omega)).mono ?_; rintro e w' ⟨rfl, rfl⟩))
    refine (kinds_any _).mono ?_; rintro _ w1 ⟨rfl, hb1⟩
    unfold kindsV
    go_wp2_with fail
    have c1 : CalOk (w1.alloc (.cells #[.func (.func 71) #[] #[], .func (.func 73) #[] #[]] 79)) := HS.out.below (ba (bt (ba (Below.refl _ _) _) hb1) _)
    refine (HI.out _ c1).mono ?_; rintro _ w2 ⟨rfl, hb2⟩
    replace he := Lib.hid he
    have hB := bt (ba hb1 _) hb2
    obtain ⟨q0, q1, q2, q3, z0, z1, z2, z3⟩ := run_cells hB
    go_wp2_with fail
    refine bodyPost_ret (v := .tuple #[rv 0 0 0 0, .int .i64 e]) (by simp [results, Tryz.results8, go_sem, rv, q0, q1, q2, q3]) rfl ⟨rfl, ?_⟩
    exact ((((bt (ba (Below.refl _ _) _) hB).setCell (Nat.le_refl _) _).setCell (Nat.le_refl _) _).setCell (Nat.le_refl _) _).setCell (Nat.le_refl _) _
set_option maxHeartbeats 400000 in
set_option maxRecDepth 8000 in
theorem holding3_walk (d i e lo hi f : Int) (w : World) (hs : CalOk w)
    (HI : ∀ W, CalOk W → Calls Tryz.prog 74 #[.int .i64 d] W fun r w' => r = .returned (.tuple #[.int .i64 i, .int .i64 e]) ∧ Below W.heap.size W w')
    (HA : ∀ W, CalOk W → Calls Tryz.prog 75 #[.int .i64 i] W fun r w' => r = .returned (.tuple #[.int .i64 lo, .int .i64 hi, .int .i64 f]) ∧ Below W.heap.size W w') :
    Calls Tryz.prog 8 #[.int .i64 d, .int .u8 3] w fun r w' => r = .returned (.tuple #[rv 0 (if e = 0 then (if f = 0 then lo else 0) else 0) 0 (if e = 0 then (if f = 0 then hi else 0) else 0), .int .i64 (if e = 0 then f else e)]) ∧ Below w.heap.size w w' := by
  replace HI := Lib.hid HI
  replace HA := Lib.hid HA
  have HS := Lib.hid hs; clear hs
  have K := kindsAt3
  unfold kindsV at K
  by_cases he : e = 0
  · subst he
    rw [if_pos rfl, if_pos rfl, if_pos rfl]
    have HR := fun W => unitsRun_flat lo hi f W
    generalize (if f = 0 then lo else 0) = L at HR ⊢
    generalize (if f = 0 then hi else 0) = H at HR ⊢
    replace HR := Lib.hid HR
    go_enter Tryz.func8, Tryz.ntmps8
    go_wp2_with (first | (go_at_call 36; refine (unitsKnown_any _ _ (by omega) (by omega)).mono ?_; rintro e w' ⟨rfl, rfl⟩))
    refine (kinds_any _).mono ?_; rintro e w1 ⟨rfl, hb1⟩
    unfold kindsV
    go_wp2_with fail
    have c1 : CalOk (w1.alloc (.cells #[.func (.func 74) #[] #[], .func (.func 75) #[] #[]] 79)) := HS.out.below (ba (bt (ba (Below.refl _ _) _) hb1) _)
    refine (HI.out _ c1).mono ?_; rintro e w2 ⟨rfl, hb2⟩
    have r1 : w2.cell? ⟨w1.heap.size, 1, none⟩ = some (.func (.func 75) #[] #[]) := by
      rw [hb2.cell (by simp)]; simp [go_sem]
    go_wp2_with fail
    refine (HA.out _ (c1.below hb2)).mono ?_; rintro e w3 ⟨rfl, hb3⟩
    go_wp2_with fail
    refine (HR.out _).mono ?_; rintro e w4 ⟨rfl, hb4⟩
    have hB := bt (bt (bt (ba hb1 _) hb2) hb3) hb4
    obtain ⟨q0, q1, q2, q3, z0, z1, z2, z3⟩ := run_cells hB
    go_wp2_with fail
    refine bodyPost_ret (v := .tuple #[rv 0 L 0 H, .int .i64 f]) (by simp [results, Tryz.results8, go_sem, rv, q0, q1, q2, q3]) rfl ⟨rfl, ?_⟩
    exact ((((bt (ba (Below.refl _ _) _) hB).setCell (Nat.le_refl _) _).setCell (Nat.le_refl _) _).setCell (Nat.le_refl _) _).setCell (Nat.le_refl _) _
  · have t : (e != 0) = true := by rw [bne_iff_ne]; exact he
    rw [if_neg he, if_neg he, if_neg he]
    go_enter Tryz.func8, Tryz.ntmps8
    go_wp2_with (first | (go_at_call 36; refine (unitsKnown_any _ _ (by omega) (by omega)).mono ?_; rintro e w' ⟨rfl, rfl⟩))
    refine (kinds_any _).mono ?_; rintro _ w1 ⟨rfl, hb1⟩
    unfold kindsV
    go_wp2_with fail
    have c1 : CalOk (w1.alloc (.cells #[.func (.func 74) #[] #[], .func (.func 75) #[] #[]] 79)) := HS.out.below (ba (bt (ba (Below.refl _ _) _) hb1) _)
    refine (HI.out _ c1).mono ?_; rintro _ w2 ⟨rfl, hb2⟩
    replace he := Lib.hid he
    have hB := bt (ba hb1 _) hb2
    obtain ⟨q0, q1, q2, q3, z0, z1, z2, z3⟩ := run_cells hB
    go_wp2_with fail
    refine bodyPost_ret (v := .tuple #[rv 0 0 0 0, .int .i64 e]) (by simp [results, Tryz.results8, go_sem, rv, q0, q1, q2, q3]) rfl ⟨rfl, ?_⟩
    exact ((((bt (ba (Below.refl _ _) _) hB).setCell (Nat.le_refl _) _).setCell (Nat.le_refl _) _).setCell (Nat.le_refl _) _).setCell (Nat.le_refl _) _
/-- What Holding answers. -/
def holdC (p d : Int) : Int × Int × Int := if p = 3 then (d, d, 0) else if -10000000000000000 ≤ yof d ∧ yof d ≤ 10000000000000000 then (if p = 1 then (st (yof d), st (yof d + 1) - 1, 0) else (st (yof d) + cum (yof d) (mof (yof d) (d - st (yof d))), st (yof d) + cum (yof d) (mof (yof d) (d - st (yof d)) + 1) - 1, 0)) else (0, 0, 6)

theorem holding3_any (d : Int) (w : World) (hs : CalOk w) :
    Calls Tryz.prog 8 #[.int .i64 d, .int .u8 3] w fun r w' => r = .returned (.tuple #[rv 0 d 0 d, .int .i64 0]) ∧ Below w.heap.size w w' :=
  holding3_walk d d 0 d d 0 w hs (fun W _ => (kinds2_any d W).mono fun r w' ⟨h1, h2⟩ => ⟨h1, by rw [← h2]; exact Below.refl _ _⟩) (fun W _ => (kinds3_any d W).mono fun r w' ⟨h1, h2⟩ => ⟨h1, by rw [← h2]; exact Below.refl _ _⟩)

theorem holding1_any (d : Int) (w : World) (hs : CalOk w) (h0 : -9223372036854775808 ≤ d) (h1 : d < 9223372036854775808) :
    Calls Tryz.prog 8 #[.int .i64 d, .int .u8 1] w fun r w' => r = .returned (.tuple #[rv 0 (holdC 1 d).1 0 (holdC 1 d).2.1, .int .i64 (holdC 1 d).2.2]) ∧ Below w.heap.size w w' := by
  have h := holding1_walk d _ _ _ _ _ w hs (fun W c => yearOf_any d W c.steps h0 h1) (fun W c => unitsYear_any _ W c)
  refine h.mono fun r w' ⟨e, b⟩ => ⟨?_, b⟩
  rw [e]
  unfold holdC yearOfC
  by_cases c : -10000000000000000 ≤ yof d ∧ yof d ≤ 10000000000000000
  · simp [c]
  · simp [c]

theorem monthC_of (d : Int) (c : -10000000000000000 ≤ yof d ∧ yof d ≤ 10000000000000000) :
    monthC (12 * (monthOfC d).1 + (monthOfC d).2.1 - 1) = (st (yof d) + cum (yof d) (mof (yof d) (d - st (yof d))), st (yof d) + cum (yof d) (mof (yof d) (d - st (yof d)) + 1) - 1, 0) := by
  have e : monthOfC d = (yof d, mof (yof d) (d - st (yof d)), 0) := by unfold monthOfC; rw [if_pos c]
  obtain ⟨s1, s2⟩ := yof_spec d
  obtain ⟨m0, m1, -, -⟩ := @mof_spec (yof d) (d - st (yof d)) (by omega) (by have := st_succ (yof d); omega)
  rw [e]; dsimp only
  generalize mof (yof d) (d - st (yof d)) = m at m0 m1 ⊢
  have q : (12 * yof d + m - 1) / 12 = yof d := by omega
  have r : (12 * yof d + m - 1) % 12 = m - 1 := by omega
  unfold monthC
  rw [q, r, if_pos c, show m - 1 + 1 = m by omega, show m - 1 + 2 = m + 1 by omega]

theorem holding2_any (d : Int) (w : World) (hs : CalOk w) (h0 : -9223372036854775808 ≤ d) (h1 : d < 9223372036854775808) :
    Calls Tryz.prog 8 #[.int .i64 d, .int .u8 2] w fun r w' => r = .returned (.tuple #[rv 0 (holdC 2 d).1 0 (holdC 2 d).2.1, .int .i64 (holdC 2 d).2.2]) ∧ Below w.heap.size w w' := by
  obtain ⟨b1, b2, b3, b4⟩ := monthOfC_bd d
  have h := holding2_walk d _ _ _ _ _ w hs (fun W c => kinds1_any d W c h0 h1) (fun W c => unitsMonth_any _ W c (by omega) (by omega))
  refine h.mono fun r w' ⟨e, b⟩ => ⟨?_, b⟩
  rw [e]
  by_cases c : -10000000000000000 ≤ yof d ∧ yof d ≤ 10000000000000000
  · rw [monthC_of d c]
    unfold holdC monthOfC
    simp [c]
  · unfold holdC monthOfC
    simp [c]

set_option maxHeartbeats 400000 in
set_option maxRecDepth 8000 in
theorem holdingNo_any (d p : Int) (w : World) (h0 : 0 ≤ p) (h1 : p < 256) (hp : p < 1 ∨ 3 < p) :
    Calls Tryz.prog 8 #[.int .i64 d, .int .u8 p] w fun r w' => r = .returned (.tuple #[rv 0 0 0 0, .int .i64 18]) ∧ Below w.heap.size w w' := by
  have t : decide (1 ≤ p ∧ p ≤ 3) = false := decide_eq_false (by omega)
  have HK := fun W => unitsKnown_any p W h0 h1
  rw [t] at HK
  replace HK := Lib.hid HK
  clear t hp
  go_enter Tryz.func8, Tryz.ntmps8
  go_wp2_with (first | (go_at_call 36; refine (HK.out _).mono ?_; rintro e w' ⟨rfl, rfl⟩))
  refine bodyPost_ret (v := .tuple #[rv 0 0 0 0, .int .i64 18]) (by simp [results, Tryz.results8, go_sem, rv]) rfl ⟨rfl, ?_⟩
  exact ba (Below.refl _ _) _

/-- What Holding answers, whatever the kind. -/
def holdAll (p d : Int) : Int × Int × Int := if p < 1 ∨ 3 < p then (0, 0, 18) else holdC p d

theorem holding_any (d p : Int) (w : World) (hs : CalOk w) (h0 : -9223372036854775808 ≤ d) (h1 : d < 9223372036854775808) (p0 : 0 ≤ p) (p1 : p < 256) :
    Calls Tryz.prog 8 #[.int .i64 d, .int .u8 p] w fun r w' => r = .returned (.tuple #[rv 0 (holdAll p d).1 0 (holdAll p d).2.1, .int .i64 (holdAll p d).2.2]) ∧ Below w.heap.size w w' := by
  unfold holdAll
  by_cases hp : p < 1 ∨ 3 < p
  · rw [if_pos hp]
    exact holdingNo_any d p w p0 p1 hp
  · rw [if_neg hp]
    obtain rfl | rfl | rfl : p = 1 ∨ p = 2 ∨ p = 3 := by omega
    · exact holding1_any d w hs h0 h1
    · exact holding2_any d w hs h0 h1
    · exact holding3_any d w hs
end Un
end Go.Proofs.YtipjmaimjchckaaGreatDoor

