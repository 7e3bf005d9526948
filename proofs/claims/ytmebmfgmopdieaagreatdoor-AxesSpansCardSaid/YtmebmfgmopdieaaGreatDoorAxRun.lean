/- THE WALKS of ends and runs, and of their references: Check, Compare; of axes.number, axes.Run, and the reference's Inf, Lo, Hi, Span. -/
import Derived.Test.YtmebmfgmopdieaaGreatDoorAxRef2
import Derived.Below
import Derived.Deep.RegionHeld3
set_option linter.unusedSimpArgs false
set_option linter.unusedVariables false
set_option maxRecDepth 100000
namespace Go.Proofs.YtmebmfgmopdieaaGreatDoor
open Go.RowKit
namespace Ax
open Fl

theorem ba {W w : World} (h : Below W.heap.size W w) (o : Obj) : Below W.heap.size W (w.alloc o) := h.alloc h.size o
theorem bt {W w w2 : World} (h : Below W.heap.size W w) (h2 : Below w.heap.size w w2) : Below W.heap.size W w2 := h.trans (h2.mono h.size)
theorem bset {W w : World} (h : Below W.heap.size W w) {p : Addr} (hp : W.heap.size ≤ p.block) (u : Value) : Below W.heap.size W (w.setCell p u) := h.setCell hp u

/-- An end, and a run, as values. -/
def ev (a d : Int) : Value := .agg #[.int .i8 a, .int .i64 d]
def rv (a lo b hi : Int) : Value := .agg #[.int .i8 a, .int .i64 lo, .int .i8 b, .int .i64 hi]
def infW (a : Int) : Nat := if a < 0 then 18442240474082181120 else 9218868437227405312
def loW (a d : Int) : Nat := if a = 0 then downW d else infW a
def hiW (a d : Int) : Nat := if a = 0 then upW d else infW a
def ecmp (a d b e : Int) : Int := if a < b then -1 else if b < a then 1 else cmpI d e
def eErr (a d : Int) : Int := if a = 0 then 0 else if a = 1 ∧ d = 0 then 0 else if a = -1 ∧ d = 0 then 0 else 5
def rErr (a lo b hi : Int) : Int := if eErr a lo ≠ 0 ∨ eErr b hi ≠ 0 then 5 else if 0 < a ∨ b < 0 then 4 else if 0 < ecmp a lo b hi then 12 else 0

theorem inf36_any (a : Int) (w : World) :
    Calls Tryz.prog 60 #[.int .i8 a] w fun e w' => e = .returned (.float .f64 (infW a)) ∧ w = w' := by
  have HP := Lib.hid (fun w => power_any 63 w (by decide))
  go_enter Tryz.func60, Tryz.ntmps60
  go_wp2_with fail
  refine (HP.out _).mono ?_
  rintro _ w' ⟨rfl, rfl⟩
  go_wp2_with fail
  go_loop [3, 4] (fun x i => ∃ j : Nat, j ≤ 12 ∧ x = .float .f64 (sq j) ∧ i = .int .i64 (j : Int)) (fun _ i => 12 - (intOf i).toNat)
  case atStart => exact ⟨0, by omega, rfl, rfl⟩
  case round =>
    obtain ⟨j, hj, rfl, rfl⟩ := hrel
    by_cases h : j < 12
    · have hm := fun w => sq_run j h w
      go_wp2
      go_round
      case rel => exact ⟨j + 1, by omega, rfl, by go_num⟩
      case measure => simp [intOf]; omega
    · have e : j = 12 := by omega
      subst e
      rw [sq_end]
      by_cases c : a < 0
      · go_wp2
        go_ret
        exact ⟨rf (by unfold infW; rw [if_pos c]; decide), rfl⟩
      · go_wp2
        go_ret
        exact ⟨rf (by unfold infW; rw [if_neg (by omega)]), rfl⟩

theorem echeck_any (a d : Int) (w : World) :
    Calls Tryz.prog 54 #[ev a d] w fun e w' => e = .returned (.int .i64 (eErr a d)) ∧ Below w.heap.size w w' := by
  unfold ev
  go_enter Tryz.func54, Tryz.ntmps54
  go_wp2_with fail
  all_goals go_ret
  all_goals refine ⟨ri ?_, ba (Below.refl _ _) _⟩
  all_goals unfold eErr
  all_goals simp_all

theorem rcheck8_any (a d : Int) (w : World) :
    Calls Tryz.prog 32 #[ev a d] w fun e w' => e = .returned (.int .i64 (eErr a d)) ∧ Below w.heap.size w w' := by
  unfold ev
  go_enter Tryz.func32, Tryz.ntmps32
  go_wp2_with fail
  all_goals go_ret
  all_goals refine ⟨ri ?_, ba (Below.refl _ _) _⟩
  all_goals unfold eErr
  all_goals simp_all

theorem rcmp8_any (a d b e : Int) (w : World) :
    Calls Tryz.prog 33 #[ev a d, ev b e] w fun r w' => r = .returned (.int .i64 (ecmp a d b e)) ∧ Below w.heap.size w w' := by
  unfold ev
  go_enter Tryz.func33, Tryz.ntmps33
  go_wp2_with fail
  all_goals go_ret
  all_goals refine ⟨ri ?_, ba (ba (Below.refl _ _) _) _⟩
  all_goals unfold ecmp cmpI
  all_goals (repeat' split) <;> omega

theorem cmp8_any (a b : Int) (w : World) :
    Calls Tryz.prog 83 #[.int .i8 a, .int .i8 b] w fun e w' => e = .returned (.int .i64 (cmpI a b)) ∧ w = w' := by
  go_enter Tryz.func83, Tryz.ntmps83
  go_wp2
  all_goals go_ret
  · exact ⟨ri (cmpI_lt (by assumption)), rfl⟩
  · exact ⟨ri (cmpI_gt (by assumption)), rfl⟩
  · exact ⟨ri (cmpI_eq (by assumption) (by assumption)), rfl⟩

/-- The first of two numbers that is not 0. -/
def orV (x y : Int) : Int := if x = 0 then y else x
theorem or2_any (x y : Int) (b : Nat) (w : World) (h0 : w.cell? ⟨b, 0, none⟩ = some (.int .i64 x)) (h1 : w.cell? ⟨b, 1, none⟩ = some (.int .i64 y)) :
    Calls Tryz.prog 82 #[.slice (some ⟨b, 0, none⟩) 2 2] w fun r w' => r = .returned (.int .i64 (orV x y)) ∧ w = w' := by
  have H0 := Lib.hid h0; have H1 := Lib.hid h1
  go_enter Tryz.func82, Tryz.ntmps82
  go_wp2_with fail
  go_loop [2, 8] (fun r i => ∃ k : Nat, k ≤ 2 ∧ r = .int .i64 0 ∧ i = .int .i64 (k : Int) ∧ (1 ≤ k → x = 0) ∧ (2 ≤ k → y = 0)) (fun _ i => 2 - (intOf i).toNat)
  case atStart => exact ⟨0, by omega, rfl, rfl, by omega, by omega⟩
  case round =>
    obtain ⟨k, hk, rfl, rfl, hx, hy⟩ := hrel
    have hk3 : k = 0 ∨ k = 1 ∨ k = 2 := by omega
    rcases hk3 with rfl | rfl | rfl
    · clear hx hy
      by_cases c : x = 0
      · subst c
        go_wp2
        go_round
        case rel => exact ⟨1, by omega, rfl, rfl, fun _ => by trivial, by omega⟩
        case measure => first | (simp [intOf]; done) | (simp [intOf]; omega)
      · have t : (x != 0) = true := by rw [bne_iff_ne]; exact c
        replace c := Lib.hid c
        go_wp2
        go_ret
        exact ⟨ri (by unfold orV; rw [if_neg c.out]), rfl⟩
    · obtain rfl := hx (by omega)
      clear hx hy
      by_cases c : y = 0
      · subst c
        go_wp2
        go_round
        case rel => exact ⟨2, by omega, rfl, rfl, fun _ => by trivial, fun _ => by trivial⟩
        case measure => first | (simp [intOf]; done) | (simp [intOf]; omega)
      · have t : (y != 0) = true := by rw [bne_iff_ne]; exact c
        replace c := Lib.hid c
        go_wp2
        go_ret
        exact ⟨ri (by unfold orV; rw [if_pos rfl]), rfl⟩
    · obtain rfl := hx (by omega)
      obtain rfl := hy (by omega)
      clear hx hy
      go_wp2
      go_ret
      exact ⟨ri (by unfold orV; rw [if_pos rfl]), rfl⟩

theorem or2_new (x y : Int) (w : World) (t : TypeId) (n : Nat) (hn : n = w.heap.size) :
    Calls Tryz.prog 82 #[.slice (some ⟨n, 0, none⟩) 2 2] (w.alloc (.cells #[.int .i64 x, .int .i64 y] t)).drew fun r w' => r = .returned (.int .i64 (orV x y)) ∧ (w.alloc (.cells #[.int .i64 x, .int .i64 y] t)).drew = w' := by
  subst hn
  refine or2_any x y _ _ ?_ ?_
  · show World.cell? (World.alloc _ _) _ = _; simp [go_sem]
  · show World.cell? (World.alloc _ _) _ = _; simp [go_sem]

theorem ecmp_cmp (a d b e : Int) : orV (cmpI a b) (cmpI d e) = ecmp a d b e := by
  unfold orV ecmp cmpI; (repeat' split) <;> omega

theorem four0 (w : World) (a d b e : Int) (t t2 : TypeId) : ∀ W0, W0 = (w.alloc (.cells #[.int .i8 a, .int .i64 d] t)).alloc (.cells #[.int .i8 b, .int .i64 e] t2) →
    W0.cell? ⟨w.heap.size, 0, none⟩ = some (.int .i8 a) ∧ W0.cell? ⟨w.heap.size, 1, none⟩ = some (.int .i64 d) ∧ W0.cell? ⟨w.heap.size + 1, 0, none⟩ = some (.int .i8 b) ∧ W0.cell? ⟨w.heap.size + 1, 1, none⟩ = some (.int .i64 e) ∧ Below w.heap.size w W0 := by
  rintro W0 rfl
  refine ⟨?_, ?_, ?_, ?_, ba (ba (Below.refl _ _) _) _⟩ <;> simp [go_sem]
theorem later4 {W0 w1 w2 : World} {p0 p1 p2 p3 : Addr} {v0 v1 v2 v3 : Value} (h : w1.cell? p0 = some v0 ∧ w1.cell? p1 = some v1 ∧ w1.cell? p2 = some v2 ∧ w1.cell? p3 = some v3 ∧ Below W0.heap.size W0 w1) (hb : Below w1.heap.size w1 w2) :
    w2.cell? p0 = some v0 ∧ w2.cell? p1 = some v1 ∧ w2.cell? p2 = some v2 ∧ w2.cell? p3 = some v3 ∧ Below W0.heap.size W0 w2 :=
  have g : ∀ {p : Addr} {v : Value}, w1.cell? p = some v → w2.cell? p = some v := fun {p v} hc => (hb.cell (World.block_lt_of_cell? _ _ hc)).trans hc
  ⟨g h.1, g h.2.1, g h.2.2.1, g h.2.2.2.1, bt h.2.2.2.2 hb⟩

theorem ecmp_any (a d b e : Int) (w : World) :
    Calls Tryz.prog 55 #[ev a d, ev b e] w fun r w' => r = .returned (.int .i64 (ecmp a d b e)) ∧ Below w.heap.size w w' := by
  unfold ev
  have HX := Lib.hid (ecmp_cmp a d b e)
  go_enter Tryz.func55, Tryz.ntmps55
  go_wp2_with fail
  have hh := four0 w a d b e 24 24 _ rfl
  go_region_held3 (fun w' => w'.cell? ⟨w.heap.size, 0, none⟩ = some (.int .i8 a) ∧ w'.cell? ⟨w.heap.size, 1, none⟩ = some (.int .i64 d) ∧ w'.cell? ⟨w.heap.size + 1, 0, none⟩ = some (.int .i8 b) ∧ w'.cell? ⟨w.heap.size + 1, 1, none⟩ = some (.int .i64 e) ∧ Below w.heap.size w w') (first | (exact later4 hh (Below.refl _ _).drew) | (exact later4 hh ((Below.refl _ _).drew.alloc (by simp [go_sem]) _)) | assumption) ((first | (go_at_call 83; with_reducible refine (cmp8_any _ _ _).mono ?_; rintro _ w' ⟨rfl, rfl⟩) | (go_at_call 84; with_reducible refine (cmpN _ _ _).mono ?_; rintro _ w' ⟨rfl, rfl⟩) | (go_at_call 82; refine (or2_new (cmpI a b) (cmpI d e) _ _ _ ?_).mono ?_; (simp [go_sem]); rintro _ w' ⟨rfl, rfl⟩)))
  rename_i hk
  have HB := Lib.hid hk.2.2.2.2
  clear hk hh
  go_wp2
  go_ret
  exact ⟨ri HX.out, HB.out⟩
end Ax
end Go.Proofs.YtmebmfgmopdieaaGreatDoor
