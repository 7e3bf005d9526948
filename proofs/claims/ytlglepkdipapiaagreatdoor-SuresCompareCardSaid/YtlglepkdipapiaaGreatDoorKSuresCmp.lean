/- THE WALKS of SuresCompare: the program's order of lengths, the reference's, and the law. -/
import Derived.Test.YtlglepkdipapiaaGreatDoorRows
import Derived.WalkKit
import Derived.WalkSpells
import Derived.WalkLawsBesides
import Derived.Below
import Derived.Deep.RegionHeld3
import Derived.Lib.Hide
/-! THE WALKS of SuresCompare: the program's order of lengths, the reference's, and the law. -/
set_option linter.unusedSimpArgs false
set_option linter.unusedVariables false
namespace Go.Proofs.YtlglepkdipapiaaGreatDoor
open Go.RowKit
namespace Su

def cmpI (a b : Int) : Int := if a < b then -1 else if b < a then 1 else 0
/-- The order of two lengths. -/
def lc (d : Int) (i : Bool) (e : Int) (j : Bool) : Int := if i then (if j then 0 else 1) else (if j then -1 else cmpI d e)
/-- A length, as a value. -/
def lv (d : Int) (i : Bool) : Value := .agg #[.int .i64 d, .bool i]

theorem ri {k : IntKind} {a b : Int} (h : a = b) : Ending.returned (.int k a) = .returned (.int k b) := by rw [h]
theorem cmpI_lt {a b : Int} (h : a < b) : -1 = cmpI a b := by unfold cmpI; rw [if_pos h]
theorem cmpI_gt {a b : Int} (h : b < a) : 1 = cmpI a b := by unfold cmpI; rw [if_neg (by omega), if_pos h]
theorem cmpI_eq {a b : Int} (h : a ≤ b) (h2 : b ≤ a) : 0 = cmpI a b := by unfold cmpI; rw [if_neg (by omega), if_neg (by omega)]
theorem lc_self (d : Int) (i : Bool) : lc d i d i = 0 := by cases i <;> simp [lc, cmpI]
theorem lc_swap (d : Int) (i : Bool) (e : Int) (j : Bool) : lc e j d i = -lc d i e j := by
  cases i <;> cases j <;> simp [lc, cmpI]
  (repeat' split) <;> omega
theorem lc_vals (d : Int) (i : Bool) (e : Int) (j : Bool) : lc d i e j = -1 ∨ lc d i e j = 0 ∨ lc d i e j = 1 := by
  cases i <;> cases j <;> simp [lc, cmpI]
  (repeat' split) <;> omega
theorem lc_trans (d : Int) (i : Bool) (e : Int) (j : Bool) (g : Int) (k : Bool) (h1 : lc d i e j ≤ 0) (h2 : lc e j g k ≤ 0) : lc d i g k ≤ 0 := by
  revert h1 h2
  cases i <;> cases j <;> cases k <;> simp [lc, cmpI]
  (repeat' split) <;> omega
theorem lc_inf (d : Int) (e : Int) (j : Bool) : 0 ≤ lc d true e j := by cases j <;> simp [lc]

theorem cmpN (a b : Int) (w : World) :
    Calls Tryz.prog 15 #[.int .i64 a, .int .i64 b] w fun e w' => e = .returned (.int .i64 (cmpI a b)) ∧ w = w' := by
  go_enter Tryz.func15, Tryz.ntmps15
  go_wp2
  all_goals go_ret
  · exact ⟨ri (cmpI_lt (by assumption)), rfl⟩
  · exact ⟨ri (cmpI_gt (by assumption)), rfl⟩
  · exact ⟨ri (cmpI_eq (by assumption) (by assumption)), rfl⟩

theorem ba {W w : World} (h : Below W.heap.size W w) (o : Obj) : Below W.heap.size W (w.alloc o) := h.alloc h.size o
theorem bt {W w w2 : World} (h : Below W.heap.size W w) (h2 : Below w.heap.size w w2) : Below W.heap.size W w2 := h.trans (h2.mono h.size)

theorem scmp_any (d e : Int) (i j : Bool) (w : World) :
    Calls Tryz.prog 5 #[lv d i, lv e j] w fun r w' => r = .returned (.int .i64 (lc d i e j)) ∧ Below w.heap.size w w' := by
  unfold lv
  cases i <;> cases j
  all_goals
    go_enter Tryz.func5, Tryz.ntmps5
    go_wp2_with (go_at_call 15; refine (cmpN _ _ _).mono ?_; rintro e w' ⟨rfl, rfl⟩)
  all_goals go_ret
  all_goals refine ⟨ri ?_, ba (ba (Below.refl _ _) _) _⟩
  all_goals first | rfl | (subst_vars; exact (lc_self _ _).symm)

theorem rcmp_any (d e : Int) (i j : Bool) (w : World) :
    Calls Tryz.prog 6 #[lv d i, lv e j] w fun r w' => r = .returned (.int .i64 (lc d i e j)) ∧ Below w.heap.size w w' := by
  unfold lv
  cases i <;> cases j
  all_goals
    go_enter Tryz.func6, Tryz.ntmps6
    go_wp2_with fail
  all_goals go_ret
  all_goals refine ⟨ri ?_, ba (ba (Below.refl _ _) _) _⟩
  all_goals first | rfl | (simp only [lc, cmpI, Bool.false_eq_true, if_false]; (repeat' split) <;> omega)

theorem later6 {W0 w1 w2 : World} {p0 p1 p2 p3 p4 p5 : Addr} {v0 v1 v2 v3 v4 v5 : Value} (h : w1.cell? p0 = some v0 ∧ w1.cell? p1 = some v1 ∧ w1.cell? p2 = some v2 ∧ w1.cell? p3 = some v3 ∧ w1.cell? p4 = some v4 ∧ w1.cell? p5 = some v5 ∧ Below W0.heap.size W0 w1) (hb : Below w1.heap.size w1 w2) :
    w2.cell? p0 = some v0 ∧ w2.cell? p1 = some v1 ∧ w2.cell? p2 = some v2 ∧ w2.cell? p3 = some v3 ∧ w2.cell? p4 = some v4 ∧ w2.cell? p5 = some v5 ∧ Below W0.heap.size W0 w2 :=
  have g : ∀ {p : Addr} {v : Value}, w1.cell? p = some v → w2.cell? p = some v := fun {p v} hc => (hb.cell (World.block_lt_of_cell? _ _ hc)).trans hc
  ⟨g h.1, g h.2.1, g h.2.2.1, g h.2.2.2.1, g h.2.2.2.2.1, g h.2.2.2.2.2.1, bt h.2.2.2.2.2.2 hb⟩
theorem six0 (w : World) (d e g : Int) (i j k : Bool) (t t2 t3 : TypeId) : ∀ W0, W0 = ((w.alloc (.cells #[.int .i64 d, .bool i] t)).alloc (.cells #[.int .i64 e, .bool j] t2)).alloc (.cells #[.int .i64 g, .bool k] t3) →
    W0.cell? ⟨w.heap.size, 0, none⟩ = some (.int .i64 d) ∧ W0.cell? ⟨w.heap.size, 1, none⟩ = some (.bool i) ∧ W0.cell? ⟨w.heap.size + 1, 0, none⟩ = some (.int .i64 e) ∧ W0.cell? ⟨w.heap.size + 1, 1, none⟩ = some (.bool j) ∧ W0.cell? ⟨w.heap.size + 1 + 1, 0, none⟩ = some (.int .i64 g) ∧ W0.cell? ⟨w.heap.size + 1 + 1, 1, none⟩ = some (.bool k) ∧ Below w.heap.size w W0 := by
  rintro W0 rfl
  refine ⟨?_, ?_, ?_, ?_, ?_, ?_, ba (ba (ba (Below.refl _ _) _) _) _⟩ <;> simp [go_sem]
set_option maxHeartbeats 2000000 in
/-- The law, whatever the three orders are that its calls tell. -/
theorem law_walk (a b c : Value) (i : Bool) (d : Int) (ha : a = lv d i) (n m o : Int) (w : World) (hb : ∃ e j, b = lv e j) (hc : ∃ e j, c = lv e j)
    (Hab : ∀ W, Calls Tryz.prog 5 #[a, b] W fun r w' => r = .returned (.int .i64 n) ∧ Below W.heap.size W w')
    (Hbc : ∀ W, Calls Tryz.prog 5 #[b, c] W fun r w' => r = .returned (.int .i64 m) ∧ Below W.heap.size W w')
    (Hac : ∀ W, Calls Tryz.prog 5 #[a, c] W fun r w' => r = .returned (.int .i64 o) ∧ Below W.heap.size W w')
    (Hba : ∀ W, Calls Tryz.prog 5 #[b, a] W fun r w' => r = .returned (.int .i64 (-n)) ∧ Below W.heap.size W w')
    (Haa : ∀ W, Calls Tryz.prog 5 #[a, a] W fun r w' => r = .returned (.int .i64 0) ∧ Below W.heap.size W w')
    (Rab : ∀ W, Calls Tryz.prog 6 #[a, b] W fun r w' => r = .returned (.int .i64 n) ∧ Below W.heap.size W w')
    (HL : ∀ W, Below w.heap.size w W → Calls Tryz.prog 7 #[] W fun r w' => r = .returned (.bool true) ∧ Below W.heap.size W w')
    (hn : n = -1 ∨ n = 0 ∨ n = 1) (h1 : 0 < n ∨ 0 < m ∨ o ≤ 0) (h2 : i = true → 0 ≤ n) :
    Calls Tryz.prog 3 #[a, b, c] w fun r w' => r = .returned (.bool true) ∧ Below w.heap.size w w' := by
  obtain ⟨eb, jb, rfl⟩ := hb
  obtain ⟨ec, jc, rfl⟩ := hc
  subst ha
  unfold lv at *
  replace Hab := Lib.hid Hab; replace Hbc := Lib.hid Hbc; replace Hac := Lib.hid Hac; replace Hba := Lib.hid Hba; replace Haa := Lib.hid Haa; replace Rab := Lib.hid Rab; replace HL := Lib.hid HL; replace h1 := Lib.hid h1; replace h2 := Lib.hid h2
  have h3 := h1.out; have h4 := h2.out; replace h3 := Lib.hid h3; replace h4 := Lib.hid h4
  rcases hn with rfl | rfl | rfl
  all_goals
    clear h1 h2
    go_enter Tryz.func3, Tryz.ntmps3
    go_wp2_with fail
    have hh := six0 w d eb ec i jb jc 23 23 23 _ rfl
    go_region_held3 (fun w' => w'.cell? ⟨w.heap.size, 0, none⟩ = some (.int .i64 d) ∧ w'.cell? ⟨w.heap.size, 1, none⟩ = some (.bool i) ∧ w'.cell? ⟨w.heap.size + 1, 0, none⟩ = some (.int .i64 eb) ∧ w'.cell? ⟨w.heap.size + 1, 1, none⟩ = some (.bool jb) ∧ w'.cell? ⟨w.heap.size + 1 + 1, 0, none⟩ = some (.int .i64 ec) ∧ w'.cell? ⟨w.heap.size + 1 + 1, 1, none⟩ = some (.bool jc) ∧ Below w.heap.size w w') (first | (exact later6 hh (Below.refl _ _).drew) | exact later6 (later6 hh (Below.refl _ _).drew) hb2 | exact later6 ‹_ ∧ _ ∧ _ ∧ _ ∧ _ ∧ _ ∧ Below _ _ _› hb2) ((first | (go_at_call 5; (first | with_reducible refine (Hab.out _).mono ?_ | with_reducible refine (Hbc.out _).mono ?_ | with_reducible refine (Hac.out _).mono ?_); rintro _ w2 ⟨rfl, hb2⟩)))
    rename_i hk
    clear hh hb2 Hab Hbc Hac
    obtain ⟨q0, q1, q2, q3, q4, q5, hB⟩ := hk
    have hq := Lib.hid (show _ ∧ _ ∧ _ ∧ _ ∧ _ ∧ _ ∧ _ from ⟨q0, q1, q2, q3, q4, q5, hB⟩)
    go_wp2_with fail
    refine (Rab.out _).mono ?_; rintro _ w4 ⟨rfl, hb4⟩
    clear q0 q1 q2 q3 q4 q5 hB
    replace hq := Lib.hid (later6 hq.out hb4)
    obtain ⟨q0, q1, q2, q3, q4, q5, hB⟩ := hq.out
    clear hB
    go_wp2_with fail
    refine (Hba.out _).mono ?_; rintro _ w5 ⟨rfl, hb5⟩
    clear q0 q1 q2 q3 q4 q5
    replace hq := Lib.hid (later6 hq.out hb5)
    obtain ⟨q0, q1, q2, q3, q4, q5, hB⟩ := hq.out
    clear hB
    go_wp2_with fail
    refine (Haa.out _).mono ?_; rintro _ w6 ⟨rfl, hb6⟩
    clear q0 q1 q2 q3 q4 q5
    replace hq := Lib.hid (later6 hq.out hb6)
    obtain ⟨q0, q1, q2, q3, q4, q5, hB⟩ := hq.out
    clear hb4 hb5 hb6
    go_wp2_with (go_at_call 7; refine (HL.out _ hB).mono ?_; rintro _ w7 ⟨rfl, hb7⟩; replace hq := Lib.hid (bt hB hb7))
    all_goals go_ret
    all_goals first | exact ⟨rfl, hq.out⟩ | (exfalso; have h5 := h3.out; have h6 := h4.out; clear Haa HL Hba Rab hq; simp_all; done) | (exfalso; have h5 := h3.out; clear Haa HL Hba Rab hq; omega) | (refine ⟨?_, hq.out⟩; clear Haa HL Hba Rab hq hB hb2 h3 h4; (try rename_i hb7); (try clear hb7); simp; omega)

theorem law_any (d : Int) (i : Bool) (e : Int) (j : Bool) (g : Int) (k : Bool) (w : World) (HL : ∀ W, Below w.heap.size w W → Calls Tryz.prog 7 #[] W fun r w' => r = .returned (.bool true) ∧ Below W.heap.size W w') :
    Calls Tryz.prog 3 #[lv d i, lv e j, lv g k] w fun r w' => r = .returned (.bool true) ∧ Below w.heap.size w w' := by
  refine law_walk _ _ _ i d rfl (lc d i e j) (lc e j g k) (lc d i g k) w ⟨_, _, rfl⟩ ⟨_, _, rfl⟩ (fun W => scmp_any _ _ _ _ W) (fun W => scmp_any _ _ _ _ W) (fun W => scmp_any _ _ _ _ W) (fun W => ?_) (fun W => ?_) (fun W => rcmp_any _ _ _ _ W) HL (lc_vals _ _ _ _) ?_ ?_
  · rw [← lc_swap]; exact scmp_any _ _ _ _ W
  · rw [← lc_self d i]; exact scmp_any _ _ _ _ W
  · have := lc_trans d i e j g k; omega
  · rintro rfl; exact lc_inf _ _ _
end Su
end Go.Proofs.YtlglepkdipapiaaGreatDoor

