/- THE WALKS of the statements' right, and of AxesRun. -/
import Derived.Test.YtmebmfgmopdieaaGreatDoorAxLaw3
set_option linter.unusedSimpArgs false
set_option linter.unusedVariables false
set_option maxRecDepth 100000
namespace Go.Proofs.YtmebmfgmopdieaaGreatDoor
open Go.RowKit
namespace Ax
open Fl

theorem rt_cells {w W : World} {a lo b hi x y e : Value} {t t2 : TypeId} (h : Below ((w.alloc (.cells #[x, y, e] t2)).alloc (.cells #[a, lo, b, hi] t)).heap.size ((w.alloc (.cells #[x, y, e] t2)).alloc (.cells #[a, lo, b, hi] t)) W) :
    (W.cell? ⟨w.heap.size + 1, 0, none⟩ = some a ∧ W.cell? ⟨w.heap.size + 1, 1, none⟩ = some lo ∧ W.cell? ⟨w.heap.size + 1, 2, none⟩ = some b ∧ W.cell? ⟨w.heap.size + 1, 3, none⟩ = some hi) ∧
    (W.cell? ⟨w.heap.size, 0, none⟩ = some x ∧ W.cell? ⟨w.heap.size, 1, none⟩ = some y ∧ W.cell? ⟨w.heap.size, 2, none⟩ = some e) ∧ Below w.heap.size w W := by
  refine ⟨⟨?_, ?_, ?_, ?_⟩, ⟨?_, ?_, ?_⟩, bt (ba (ba (Below.refl _ _) _) _) h⟩
  all_goals (rw [h.cell (by first | (simp; done) | (simp; omega))]; simp [go_sem]; done)

theorem seven0 (w : World) (a lo b hi x y e : Value) (t t2 : TypeId) : ∀ W0, W0 = (w.alloc (.cells #[x, y, e] t2)).alloc (.cells #[a, lo, b, hi] t) →
    W0.cell? ⟨w.heap.size + 1, 0, none⟩ = some a ∧ W0.cell? ⟨w.heap.size + 1, 1, none⟩ = some lo ∧ W0.cell? ⟨w.heap.size + 1, 2, none⟩ = some b ∧ W0.cell? ⟨w.heap.size + 1, 3, none⟩ = some hi ∧ W0.cell? ⟨w.heap.size, 0, none⟩ = some x ∧ W0.cell? ⟨w.heap.size, 1, none⟩ = some y ∧ W0.cell? ⟨w.heap.size, 2, none⟩ = some e ∧ Below w.heap.size w W0 := by
  rintro W0 rfl
  refine ⟨?_, ?_, ?_, ?_, ?_, ?_, ?_, ba (ba (Below.refl _ _) _) _⟩ <;> simp [go_sem]
theorem later7 {W0 w1 w2 : World} {p0 p1 p2 p3 p4 p5 p6 : Addr} {v0 v1 v2 v3 v4 v5 v6 : Value} (h : w1.cell? p0 = some v0 ∧ w1.cell? p1 = some v1 ∧ w1.cell? p2 = some v2 ∧ w1.cell? p3 = some v3 ∧ w1.cell? p4 = some v4 ∧ w1.cell? p5 = some v5 ∧ w1.cell? p6 = some v6 ∧ Below W0.heap.size W0 w1) (hb : Below w1.heap.size w1 w2) :
    w2.cell? p0 = some v0 ∧ w2.cell? p1 = some v1 ∧ w2.cell? p2 = some v2 ∧ w2.cell? p3 = some v3 ∧ w2.cell? p4 = some v4 ∧ w2.cell? p5 = some v5 ∧ w2.cell? p6 = some v6 ∧ Below W0.heap.size W0 w2 :=
  have g : ∀ {p : Addr} {v : Value}, w1.cell? p = some v → w2.cell? p = some v := fun {p v} hc => (hb.cell (World.block_lt_of_cell? _ _ hc)).trans hc
  ⟨g h.1, g h.2.1, g h.2.2.1, g h.2.2.2.1, g h.2.2.2.2.1, g h.2.2.2.2.2.1, g h.2.2.2.2.2.2.1, bt h.2.2.2.2.2.2.2 hb⟩

set_option maxHeartbeats 2000000 in
theorem right_any (a lo b hi : Int) (x y : Nat) (e : Bool) (w : World) (hx : x = loW a lo) (hy : y = hiW b hi) (he : e = (exB a lo && exB b hi)) (hr : rErr a lo b hi = 0) (l0 : -9223372036854775808 ≤ lo) (l1 : lo < 9223372036854775808) (h0 : -9223372036854775808 ≤ hi) (h1 : hi < 9223372036854775808) :
    Calls Tryz.prog 10 #[sv x y e, rv a lo b hi] w fun r w' => r = .returned (.bool true) ∧ Below w.heap.size w w' := by
  obtain ⟨r1, r2, r3, r4, r5⟩ := right_spec hr l0 l1 h0 h1
  have HA := Lib.hid (fun w => rlo_any a lo w l0 l1)
  have HB := Lib.hid (fun w => rhi_any b hi w h0 h1)
  have HS := Lib.hid (fun w => span_any a lo b hi w l0 l1 h0 h1)
  have HX := Lib.hid (fun w => same_self x w (by rw [hx]; exact r1) (by rw [hx]; exact r2))
  have HY := Lib.hid (fun w => same_self y w (by rw [hy]; exact r3) (by rw [hy]; exact r4))
  rw [← hx] at HA
  rw [← hy] at HB
  have hsp : spI a lo b hi = if e = true then 1 else 0 := by rw [he]; rfl
  rw [hsp] at HS
  clear hsp hx hy he hr l0 l1 h0 h1 r1 r2 r3 r4 r5
  unfold rv at HS ⊢
  unfold ev at HA HB
  unfold sv
  cases e
  · simp only [if_true, Bool.false_eq_true, if_false] at HS
    go_enter Tryz.func10, Tryz.ntmps10
    go_wp2_with fail
    have hh := seven0 w (.int .i8 a) (.int .i64 lo) (.int .i8 b) (.int .i64 hi) (.float .f64 x) (.float .f64 y) (.bool false) 26 29 _ rfl
    go_region_held3 (fun w' => w'.cell? ⟨w.heap.size + 1, 0, none⟩ = some (.int .i8 a) ∧ w'.cell? ⟨w.heap.size + 1, 1, none⟩ = some (.int .i64 lo) ∧ w'.cell? ⟨w.heap.size + 1, 2, none⟩ = some (.int .i8 b) ∧ w'.cell? ⟨w.heap.size + 1, 3, none⟩ = some (.int .i64 hi) ∧ w'.cell? ⟨w.heap.size, 0, none⟩ = some (.float .f64 x) ∧ w'.cell? ⟨w.heap.size, 1, none⟩ = some (.float .f64 y) ∧ w'.cell? ⟨w.heap.size, 2, none⟩ = some (.bool false) ∧ Below w.heap.size w w') (first | (exact later7 hh (Below.refl _ _).drew) | exact later7 (later7 hh (Below.refl _ _).drew) hb2 | exact later7 ‹_ ∧ _ ∧ _ ∧ _ ∧ _ ∧ _ ∧ _ ∧ Below _ _ _› hb2 | assumption) ((first | (go_at_call 36; with_reducible refine (HA.out _).mono ?_; rintro _ w2 ⟨rfl, hb2⟩) | (go_at_call 37; with_reducible refine (HB.out _).mono ?_; rintro _ w2 ⟨rfl, hb2⟩) | (go_at_call 38; with_reducible refine (HS.out _).mono ?_; rintro _ w2 ⟨rfl, hb2⟩) | (go_at_call 18; (first | with_reducible refine (HX.out _).mono ?_ | with_reducible refine (HY.out _).mono ?_); rintro _ w' ⟨rfl, rfl⟩)))
    rename_i hk
    have hB := Lib.hid hk.2.2.2.2.2.2.2
    clear hk hh
    go_wp2
    go_ret
    exact ⟨rfl, hB.out⟩
  · simp only [if_true, Bool.false_eq_true, if_false] at HS
    go_enter Tryz.func10, Tryz.ntmps10
    go_wp2_with fail
    have hh := seven0 w (.int .i8 a) (.int .i64 lo) (.int .i8 b) (.int .i64 hi) (.float .f64 x) (.float .f64 y) (.bool true) 26 29 _ rfl
    go_region_held3 (fun w' => w'.cell? ⟨w.heap.size + 1, 0, none⟩ = some (.int .i8 a) ∧ w'.cell? ⟨w.heap.size + 1, 1, none⟩ = some (.int .i64 lo) ∧ w'.cell? ⟨w.heap.size + 1, 2, none⟩ = some (.int .i8 b) ∧ w'.cell? ⟨w.heap.size + 1, 3, none⟩ = some (.int .i64 hi) ∧ w'.cell? ⟨w.heap.size, 0, none⟩ = some (.float .f64 x) ∧ w'.cell? ⟨w.heap.size, 1, none⟩ = some (.float .f64 y) ∧ w'.cell? ⟨w.heap.size, 2, none⟩ = some (.bool true) ∧ Below w.heap.size w w') (first | (exact later7 hh (Below.refl _ _).drew) | exact later7 (later7 hh (Below.refl _ _).drew) hb2 | exact later7 ‹_ ∧ _ ∧ _ ∧ _ ∧ _ ∧ _ ∧ _ ∧ Below _ _ _› hb2 | assumption) ((first | (go_at_call 36; with_reducible refine (HA.out _).mono ?_; rintro _ w2 ⟨rfl, hb2⟩) | (go_at_call 37; with_reducible refine (HB.out _).mono ?_; rintro _ w2 ⟨rfl, hb2⟩) | (go_at_call 38; with_reducible refine (HS.out _).mono ?_; rintro _ w2 ⟨rfl, hb2⟩) | (go_at_call 18; (first | with_reducible refine (HX.out _).mono ?_ | with_reducible refine (HY.out _).mono ?_); rintro _ w' ⟨rfl, rfl⟩)))
    rename_i hk
    have hB := Lib.hid hk.2.2.2.2.2.2.2
    clear hk hh
    go_wp2
    go_ret
    exact ⟨rfl, hB.out⟩
end Ax
end Go.Proofs.YtmebmfgmopdieaaGreatDoor
