/- THE WALK of AxesSpans. -/
import Derived.Test.YtmebmfgmopdieaaGreatDoorAxSpF
import Derived.Test.YtmebmfgmopdieaaGreatDoorAxSpP
import Derived.Deep.DeepCutAuto
import Derived.Deep.QuietTactic
import Derived.BigQuiet
set_option linter.unusedSimpArgs false
set_option linter.unusedVariables false
set_option maxRecDepth 100000
namespace Go.Proofs.YtmebmfgmopdieaaGreatDoor
open Go.RowKit
namespace Ax
open Fl

def av (x0 x1 x2 x3 : Nat) : Value := .agg #[.float .f64 x0, .float .f64 x1, .float .f64 x2, .float .f64 x3]

theorem fr0 (w : World) (a b c d : Value) (t : TypeId) : ∀ W0, W0 = w.alloc (.cells #[a, b, c, d] t) →
    W0.cell? ⟨w.heap.size, 0, none⟩ = some a ∧ W0.cell? ⟨w.heap.size, 1, none⟩ = some b ∧ W0.cell? ⟨w.heap.size, 2, none⟩ = some c ∧ W0.cell? ⟨w.heap.size, 3, none⟩ = some d ∧ Below w.heap.size w W0 := by
  rintro W0 rfl
  refine ⟨?_, ?_, ?_, ?_, ba (Below.refl _ _) _⟩ <;> simp [go_sem]

theorem same36_any (a b : Nat) (w : World) (ha : a < 18446744073709551616) (hb : b < 18446744073709551616) :
    Calls Tryz.prog 18 #[.float .f64 a, .float .f64 b] w fun r w' => r = .returned (.bool (smB a b)) ∧ w = w' := by
  have e1 := ne_self ha
  have e2 := ne_self hb
  have HS := Lib.hid (fun x w hx => msign_any x w hx)
  have HX := Lib.hid (show smB a b = ((nan a && nan b) || ((FloatKind.f64.format.order a b == some Ordering.eq) && (sg a == sg b))) from rfl)
  have HA := Lib.hid ha; have HB := Lib.hid hb
  clear ha hb
  obtain ⟨n1, hn1⟩ : ∃ n, n = nan a := ⟨_, rfl⟩
  obtain ⟨n2, hn2⟩ : ∃ n, n = nan b := ⟨_, rfl⟩
  obtain ⟨q, hq⟩ : ∃ n, n = (FloatKind.f64.format.order a b == some Ordering.eq) := ⟨_, rfl⟩
  rw [← hn1] at e1 HX; rw [← hn2] at e2 HX; rw [← hq] at HX
  have g := hq.symm
  clear hn1 hn2 hq
  obtain ⟨s1, hs1⟩ : ∃ n, n = sg a := ⟨_, rfl⟩
  obtain ⟨s2, hs2⟩ : ∃ n, n = sg b := ⟨_, rfl⟩
  have H1 := fun w => HS.out a w HA.out
  have H2 := fun w => HS.out b w HB.out
  rw [← hs1] at H1 HX; rw [← hs2] at H2 HX
  replace H1 := Lib.hid H1; replace H2 := Lib.hid H2
  clear hs1 hs2 HS HA HB
  cases n1 <;> cases n2 <;> cases q
  all_goals
    go_enter Tryz.func18, Tryz.ntmps18
    go_wp2_with (go_at_call 23; (first | with_reducible refine (H1.out _).mono ?_ | with_reducible refine (H2.out _).mono ?_); rintro _ w' ⟨rfl, rfl⟩)
    go_ret
    exact ⟨rb (by rw [HX.out]; first | rfl | (cases s1 <;> cases s2 <;> rfl)), rfl⟩

theorem st_cases {n : Int} {s1 s2 t : Bool} (hs : (s1 && s2) = decide (n = 0)) (ht2 : t = true → n = -1) (hv : n = -1 ∨ n = 0 ∨ n = 1) :
    (n = -1 ∧ s1 = false) ∨ (n = -1 ∧ s1 = true ∧ s2 = false) ∨ (n = 0 ∧ s1 = true ∧ s2 = true ∧ t = false) ∨ (n = 1 ∧ s1 = false ∧ t = false) ∨ (n = 1 ∧ s1 = true ∧ s2 = false ∧ t = false) := by
  rcases hv with rfl | rfl | rfl <;> cases s1 <;> cases s2 <;> cases t <;> first | decide | (exfalso; revert hs; decide) | (exfalso; revert ht2; decide)

/-- What the three variables hold: the array in the block p, the spans in ga and gb. -/
structure Cs (p ga gb : Nat) (x0 x1 x2 x3 : Nat) (w W : World) : Prop where
  c0 : W.cell? ⟨p, 0, none⟩ = some (.float .f64 x0)
  c1 : W.cell? ⟨p, 1, none⟩ = some (.float .f64 x1)
  c2 : W.cell? ⟨p, 2, none⟩ = some (.float .f64 x2)
  c3 : W.cell? ⟨p, 3, none⟩ = some (.float .f64 x3)
  a0 : W.cell? ⟨ga, 0, none⟩ = some (.float .f64 x0)
  a1 : W.cell? ⟨ga, 1, none⟩ = some (.float .f64 x1)
  a2 : W.cell? ⟨ga, 2, none⟩ = some (.bool false)
  b0 : W.cell? ⟨gb, 0, none⟩ = some (.float .f64 x2)
  b1 : W.cell? ⟨gb, 1, none⟩ = some (.float .f64 x3)
  b2 : W.cell? ⟨gb, 2, none⟩ = some (.bool true)
  below : Below w.heap.size w W
theorem Cs.later {p ga gb x0 x1 x2 x3 : Nat} {w W W2 : World} (h : Cs p ga gb x0 x1 x2 x3 w W) (hb : Below W.heap.size W W2) : Cs p ga gb x0 x1 x2 x3 w W2 :=
  have g : ∀ {p : Addr} {v : Value}, W.cell? p = some v → W2.cell? p = some v := fun {p v} hc => (hb.cell (World.block_lt_of_cell? _ _ hc)).trans hc
  ⟨g h.c0, g h.c1, g h.c2, g h.c3, g h.a0, g h.a1, g h.a2, g h.b0, g h.b1, g h.b2, bt h.below hb⟩

theorem new_ab {p x0 x1 x2 x3 : Nat} {w W0 : World} {t t2 : TypeId} (q0 : W0.cell? ⟨p, 0, none⟩ = some (.float .f64 x0)) (q1 : W0.cell? ⟨p, 1, none⟩ = some (.float .f64 x1)) (q2 : W0.cell? ⟨p, 2, none⟩ = some (.float .f64 x2)) (q3 : W0.cell? ⟨p, 3, none⟩ = some (.float .f64 x3)) (hB : Below w.heap.size w W0) :
    Cs p W0.heap.size (W0.heap.size + 1) x0 x1 x2 x3 w ((W0.alloc (.cells #[.float .f64 x0, .float .f64 x1, .bool false] t)).alloc (.cells #[.float .f64 x2, .float .f64 x3, .bool true] t2)).drew ∧
    Cs p (W0.heap.size + 1) W0.heap.size x0 x1 x2 x3 w ((W0.alloc (.cells #[.float .f64 x2, .float .f64 x3, .bool true] t2)).alloc (.cells #[.float .f64 x0, .float .f64 x1, .bool false] t)).drew := by
  have hn := World.block_lt_of_cell? _ _ q0
  have g : ∀ (o o2 : Obj) {a : Addr} {v : Value}, W0.cell? a = some v → ((W0.alloc o).alloc o2).drew.cell? a = some v := by
    intro o o2 a v hc
    have h1 := World.block_lt_of_cell? _ _ hc
    have k : Below W0.heap.size W0 ((W0.alloc o).alloc o2).drew := (ba (ba (Below.refl _ _) _) _).drew
    exact (k.cell h1).trans hc
  constructor
  · refine ⟨g _ _ q0, g _ _ q1, g _ _ q2, g _ _ q3, ?_, ?_, ?_, ?_, ?_, ?_, (ba (ba hB _) _).drew⟩
    all_goals (show World.cell? (World.alloc _ _) _ = _; simp [go_sem])
  · refine ⟨g _ _ q0, g _ _ q1, g _ _ q2, g _ _ q3, ?_, ?_, ?_, ?_, ?_, ?_, (ba (ba hB _) _).drew⟩
    all_goals (show World.cell? (World.alloc _ _) _ = _; simp [go_sem])

theorem Cs.drew' {p ga gb x0 x1 x2 x3 : Nat} {w W : World} (h : Cs p ga gb x0 x1 x2 x3 w W) : Cs p ga gb x0 x1 x2 x3 w W.drew := h.later (Below.refl _ _).drew

theorem last_cases {l u v y0 y1 : Bool} (h : (l && (u || v) && y0 && y1) = false) : l = false ∨ (l = true ∧ u = false ∧ v = false) ∨ (l = true ∧ u = true ∧ y0 = false) ∨ (l = true ∧ u = true ∧ y0 = true ∧ y1 = false) ∨
    (l = true ∧ u = false ∧ v = true ∧ y0 = false) ∨ (l = true ∧ u = false ∧ v = true ∧ y0 = true ∧ y1 = false) := by
  revert h; cases l <;> cases u <;> cases v <;> cases y0 <;> cases y1 <;> simp

set_option maxHeartbeats 8000000 in
theorem sp_walk (x0 x1 x2 x3 : Nat) (w : World) (Pw Pm : Nat → Prop) (h0 : x0 < 18446744073709551616) (h1 : x1 < 18446744073709551616) (h2 : x2 < 18446744073709551616) (h3 : x3 < 18446744073709551616) (HX : SpCls x0 x1 Pw Pm)
    (HL : ∀ W, Below w.heap.size w W → Calls Tryz.prog 9 #[] W fun r w' => r = .returned (.bool true) ∧ Below W.heap.size W w')
    (HW : ∀ W, Calls Tryz.prog 17 #[sv x0 x1 false] W fun r w' => (∃ z, Pw z ∧ r = .returned (.float .f64 z)) ∧ Below W.heap.size W w')
    (HM : ∀ W, Calls Tryz.prog 19 #[sv x0 x1 false] W fun r w' => (∃ z, Pm z ∧ r = .returned (.float .f64 z)) ∧ Below W.heap.size W w') :
    Calls Tryz.prog 6 #[av x0 x1 x2 x3] w fun r w' => r = .returned (.bool true) ∧ Below w.heap.size w w' := by
  replace HW := Lib.hid HW
  replace HM := Lib.hid HM
  replace HL := Lib.hid HL
  replace HX := Lib.hid HX
  unfold av
  unfold sv at HW HM
  go_enter Tryz.func6, Tryz.ntmps6
  go_upto_region 1 with (fail)
  go_cut [3, 4] (fun s3 s4 wx => ∃ ga gb : Nat, s3 = .pointer (some ⟨ga, 0, none⟩) ∧ s4 = .pointer (some ⟨gb, 0, none⟩) ∧ Cs w.heap.size ga gb x0 x1 x2 x3 w wx)
  case first =>
    as_aux_lemma =>
      clear HW HM HL
      obtain ⟨q0, q1, q2, q3, hB⟩ := fr0 w (.float .f64 x0) (.float .f64 x1) (.float .f64 x2) (.float .f64 x3) 60 _ rfl
      generalize w.alloc (.cells #[.float .f64 x0, .float .f64 x1, .float .f64 x2, .float .f64 x3] 60) = W0 at q0 q1 q2 q3 hB ⊢
      have n0 := World.new_ne W0 _ q0
      have hAB := Lib.hid (new_ab (t := 29) (t2 := 29) q0 q1 q2 q3 hB)
      clear hB
      go_region_held3 (fun w' => w'.cell? ⟨w.heap.size, 0, none⟩ = some (.float .f64 x0) ∧ w'.cell? ⟨w.heap.size, 1, none⟩ = some (.float .f64 x1) ∧ w'.cell? ⟨w.heap.size, 2, none⟩ = some (.float .f64 x2) ∧ w'.cell? ⟨w.heap.size, 3, none⟩ = some (.float .f64 x3)) (go_keep) (fail)
      · clear q0 q1 q2 q3 n0
        go_wp2_with fail
        go_meet
        exact ⟨_, _, rfl, rfl, hAB.out.1⟩
      · clear q0 q1 q2 q3 n0
        go_wp2_with fail
        go_meet
        exact ⟨_, _, rfl, rfl, hAB.out.2⟩
  case rest =>
    obtain ⟨ga, gb, rfl, rfl, hC⟩ := hcut
    go_upto_region 2 with (fail)
    go_cut [5, 6] (fun s5 s6 wx => ∃ wv mv : Nat, Pw wv ∧ Pm mv ∧ s5 = .float .f64 wv ∧ s6 = .float .f64 mv ∧ Cs w.heap.size ga gb x0 x1 x2 x3 w wx)
    case first =>
      as_aux_lemma =>
        clear HL
        obtain ⟨a0, a1, a2⟩ := (⟨hC.a0, hC.a1, hC.a2⟩ : _ ∧ _ ∧ _)
        have hD := Lib.hid (hC.later (Below.refl _ _).drew)
        replace hC := Lib.hid hC
        go_region_held3 (fun w' => w'.cell? ⟨ga, 0, none⟩ = some (.float .f64 x0) ∧ w'.cell? ⟨ga, 1, none⟩ = some (.float .f64 x1) ∧ w'.cell? ⟨ga, 2, none⟩ = some (.bool false) ∧ Cs w.heap.size ga gb x0 x1 x2 x3 w w') (first | exact ⟨hD.out.a0, hD.out.a1, hD.out.a2, hD.out⟩ | (have hk := hD.out.later hb2; exact ⟨hk.a0, hk.a1, hk.a2, hk⟩) | (have hk := (‹_ ∧ _ ∧ _ ∧ Cs _ _ _ _ _ _ _ _ _›).2.2.2.later hb2; exact ⟨hk.a0, hk.a1, hk.a2, hk⟩) | assumption) ((first | (go_at_call 17; with_reducible refine (HW.out _).mono ?_; rintro _ w2 ⟨⟨wv, p1, rfl⟩, hb2⟩) | (go_at_call 19; with_reducible refine (HM.out _).mono ?_; rintro _ w2 ⟨⟨mv, p2, rfl⟩, hb2⟩)))
        rename_i hk
        have hE := Lib.hid hk.2.2.2
        clear hk a0 a1 a2 hD hC HW HM
        go_wp2_with fail
        go_meet
        exact ⟨_, _, p1, p2, rfl, rfl, hE.out⟩
    case rest =>
      obtain ⟨wv, mv, p1, p2, rfl, rfl, hC⟩ := hcut
      clear HW HM
      have e0 := ne_self h0
      have e1 := ne_self h1
      obtain ⟨c0, c1⟩ := (⟨hC.c0, hC.c1⟩ : _ ∧ _)
      go_upto_region 3 with (fail)
      go_cut [7] (fun s7 wx => s7 = .bool (nan x0 || nan x1) ∧ wx = wc)
      case first =>
        as_aux_lemma =>
          clear hC HL
          cases hn0 : nan x0 <;> cases hn1 : nan x1 <;> rw [hn0] at e0 <;> rw [hn1] at e1
          all_goals
            go_wp2_with fail
            go_meet
            exact ⟨by rw [hn0, hn1]; rfl, rfl⟩
      case rest =>
        obtain ⟨rfl, rfl⟩ := hcut
        generalize hN : (nan x0 || nan x1) = N
        go_upto_if 39 with (fail)
        go_cut [2] (fun s2 wx => s2 = .bool false ∧ Cs w.heap.size ga gb x0 x1 x2 x3 w wx)
        case first =>
          as_aux_lemma =>
            clear HL
            rcases HX.out with ⟨hn, hw, hm⟩ | ⟨he, hi, hw, hm⟩ | ⟨hi, hw, hm⟩ | ⟨n0, n1, hc, q, pa, pb, h, a1, a2, a3, a4, a5, a6, a7, a8, a9, hw, hm⟩
            · as_aux_lemma =>
                obtain ⟨w1, w2⟩ := hw _ p1
                obtain ⟨m1, m2⟩ := hm _ p2
                have ew := eq_self_nan w1 w2
                have em := eq_self_nan m1 m2
                have hn' : (nan x0 || nan x1) = true := by rcases hn with h | h <;> simp [h]
                replace hC := Lib.hid hC
                obtain rfl := hN.symm.trans hn'
                clear hN hn hn' hw hm w1 w2 m1 m2 p1 p2 e0 e1 HX c0 c1 h0 h1 h2 h3
                go_wp2_with fail
                go_meet
                exact ⟨rfl, hC.out⟩
            · as_aux_lemma =>
                have hwv := hw _ p1
                have hmv := hm _ p2
                obtain ⟨k1, k2, k3, k4, k5, k6, k7, k8, k9, k10, k11⟩ : floatBits .sub .f64 x1 x0 = none ∧ floatBits .quo .f64 x0 4611686018427387904 = some x0 ∧ floatBits .quo .f64 x1 4611686018427387904 = some x1 ∧ floatBits .add .f64 x0 x1 = some x0 ∧ (FloatKind.f64.format.order x0 x1 == some Ordering.eq) = true ∧ (FloatKind.f64.format.order x0 0 == some Ordering.eq) = false ∧ x0 % 9223372036854775808 = 9218868437227405312 ∧ x1 % 9223372036854775808 = 9218868437227405312 ∧ nan x0 = false ∧ nan x1 = false ∧ (FloatKind.f64.format.order x0 x0 == some Ordering.eq) = true := by
                  subst he
                  rcases hi with rfl | rfl <;> decide +kernel
                obtain ⟨zf, b1⟩ := none_fun (op := .sub) (.inr (.inl rfl)) k1
                have b2 := fun W => run_float_arith (P := Tryz.prog) W .quo 27 .f64 x0 _ x0 k2
                have b3 := fun W => run_float_arith (P := Tryz.prog) W .quo 27 .f64 x1 _ x1 k3
                have b4 := fun W => run_float_arith (P := Tryz.prog) W .add 27 .f64 x0 x1 x0 k4
                have f0 := neq_of_eq k5
                have g1 : (FloatKind.f64.format.order wv 0 != some Ordering.eq) = false := by rw [hwv]; decide +kernel
                have g2 : (FloatKind.f64.format.order wv 0 == some Ordering.eq) = true := by rw [hwv]; decide +kernel
                have g3 : (FloatKind.f64.format.order mv x0 != some Ordering.eq) = false := by rw [hmv]; exact neq_of_eq k11
                have g4 : (FloatKind.f64.format.order mv 0 == some Ordering.eq) = false := by rw [hmv]; exact k6
                have HS0 := Lib.hid (fun W => msign_any wv W (by rw [hwv]; decide))
                have hs0 : sg wv = false := by rw [hwv]; decide
                rw [hs0] at HS0
                have HI0 := fun W => isInf0_any x0 W h0
                have HI1 := fun W => isInf0_any x1 W h1
                rw [decide_eq_true k7] at HI0
                rw [decide_eq_true k8] at HI1
                have hn' : (nan x0 || nan x1) = false := by rw [k9, k10]; rfl
                obtain rfl := hN.symm.trans hn'
                clear hN
                replace HI0 := Lib.hid HI0; replace HI1 := Lib.hid HI1
                replace hC := Lib.hid hC
                clear hw hm p1 p2 HX hwv hmv k1 k2 k3 k4 k6 k7 k8 k9 k10 k11 e0 e1 hn' hs0 hi he h0 h1 h2 h3
                go_upto_region 7 with (go_at_call 22; (first | with_reducible refine (HI0.out _).mono ?_ | with_reducible refine (HI1.out _).mono ?_); rintro _ w' ⟨rfl, rfl⟩)
                go_cut [8] (fun s8 wx => s8 = .bool true ∧ wx = wc)
                case first =>
                  as_aux_lemma =>
                    go_wp2_with (go_at_call 22; (first | with_reducible refine (HI0.out _).mono ?_ | with_reducible refine (HI1.out _).mono ?_); rintro _ w' ⟨rfl, rfl⟩)
                    go_meet
                    exact ⟨rfl, rfl⟩
                case rest =>
                  as_aux_lemma =>
                    obtain ⟨rfl, rfl⟩ := hcut
                    go_upto_region 8 with (fail)
                    go_cut [9, 10] (fun s9 s10 wx => (∃ z, s9 = .float .f64 z) ∧ s10 = .float .f64 x0 ∧ Cs w.heap.size ga gb x0 x1 x2 x3 w wx)
                    case first =>
                      as_aux_lemma =>
                        have c0 := hC.out.c0; have c1 := hC.out.c1
                        have hE := Lib.hid hC.out.drew'.drew'
                        go_region_with (fail)
                        all_goals
                          go_wp2_with fail
                          go_meet
                          exact ⟨⟨_, rfl⟩, rfl, hE.out⟩
                    case rest =>
                      as_aux_lemma =>
                        obtain ⟨⟨z, rfl⟩, rfl, hC⟩ := hcut
                        replace hC := Lib.hid hC
                        clear b1 b2 b3 b4
                        have c0 := hC.out.c0; have c1 := hC.out.c1
                        go_wp2_with (go_at_call 23; with_reducible refine (HS0.out _).mono ?_; rintro _ w' ⟨rfl, rfl⟩)
                        go_meet
                        exact ⟨rfl, hC.out⟩
            · as_aux_lemma =>
                have hwv := hw _ p1
                have hmv := hm _ p2
                obtain ⟨k1, k2, k3, k4, k5, k6, k7, k8, k9, k10, k11⟩ : floatBits .sub .f64 x1 x0 = some x1 ∧ floatBits .quo .f64 x0 4611686018427387904 = some x0 ∧ floatBits .quo .f64 x1 4611686018427387904 = some x1 ∧ floatBits .add .f64 x0 x1 = none ∧ (FloatKind.f64.format.order x0 x1 == some Ordering.eq) = false ∧ (FloatKind.f64.format.order x1 0 == some Ordering.eq) = false ∧ x0 % 9223372036854775808 = 9218868437227405312 ∧ x1 % 9223372036854775808 = 9218868437227405312 ∧ nan x0 = false ∧ nan x1 = false ∧ (FloatKind.f64.format.order x1 x1 == some Ordering.eq) = true := by
                  rcases hi with ⟨rfl, rfl⟩ | ⟨rfl, rfl⟩ <;> decide +kernel
                obtain ⟨zf, b4⟩ := none_fun (op := .add) (.inl rfl) k4
                have b1 := fun W => run_float_arith (P := Tryz.prog) W .sub 27 .f64 x1 x0 x1 k1
                have b2 := fun W => run_float_arith (P := Tryz.prog) W .quo 27 .f64 x0 _ x0 k2
                have b3 := fun W => run_float_arith (P := Tryz.prog) W .quo 27 .f64 x1 _ x1 k3
                have f0 := neq_of_ne k5
                have g1 : (FloatKind.f64.format.order wv x1 != some Ordering.eq) = false := by rw [hwv]; exact neq_of_eq k11
                have g2 : (FloatKind.f64.format.order wv 0 == some Ordering.eq) = false := by rw [hwv]; exact k6
                have g3 : (FloatKind.f64.format.order mv 0 != some Ordering.eq) = false := by rw [hmv]; decide +kernel
                have g4 : (FloatKind.f64.format.order mv 0 == some Ordering.eq) = true := by rw [hmv]; decide +kernel
                have HS0 := Lib.hid (fun W => msign_any mv W (by rw [hmv]; decide))
                have hs0 : sg mv = false := by rw [hmv]; decide
                rw [hs0] at HS0
                have HI0 := fun W => isInf0_any x0 W h0
                have HI1 := fun W => isInf0_any x1 W h1
                rw [decide_eq_true k7] at HI0
                rw [decide_eq_true k8] at HI1
                have hn' : (nan x0 || nan x1) = false := by rw [k9, k10]; rfl
                obtain rfl := hN.symm.trans hn'
                clear hN
                replace HI0 := Lib.hid HI0; replace HI1 := Lib.hid HI1
                replace hC := Lib.hid hC
                clear hw hm p1 p2 HX hwv hmv k1 k2 k3 k4 k6 k7 k8 k9 k10 k11 e0 e1 hn' hs0 hi h0 h1 h2 h3
                go_upto_region 7 with (go_at_call 22; (first | with_reducible refine (HI0.out _).mono ?_ | with_reducible refine (HI1.out _).mono ?_); rintro _ w' ⟨rfl, rfl⟩)
                go_cut [8] (fun s8 wx => s8 = .bool true ∧ wx = wc)
                case first =>
                  as_aux_lemma =>
                    go_wp2_with (go_at_call 22; (first | with_reducible refine (HI0.out _).mono ?_ | with_reducible refine (HI1.out _).mono ?_); rintro _ w' ⟨rfl, rfl⟩)
                    go_meet
                    exact ⟨rfl, rfl⟩
                case rest =>
                  as_aux_lemma =>
                    obtain ⟨rfl, rfl⟩ := hcut
                    go_upto_region 8 with (fail)
                    go_cut [9, 10] (fun s9 s10 wx => s9 = .float .f64 x1 ∧ (∃ z, s10 = .float .f64 z) ∧ Cs w.heap.size ga gb x0 x1 x2 x3 w wx)
                    case first =>
                      as_aux_lemma =>
                        have c0 := hC.out.c0; have c1 := hC.out.c1
                        have hE := Lib.hid hC.out.drew'.drew'
                        go_region_with (fail)
                        all_goals
                          go_wp2_with fail
                          go_meet
                          exact ⟨rfl, ⟨_, rfl⟩, hE.out⟩
                    case rest =>
                      as_aux_lemma =>
                        obtain ⟨rfl, ⟨z, rfl⟩, hC⟩ := hcut
                        replace hC := Lib.hid hC
                        clear b1 b2 b3 b4
                        have c0 := hC.out.c0; have c1 := hC.out.c1
                        go_wp2_with (go_at_call 23; with_reducible refine (HS0.out _).mono ?_; rintro _ w' ⟨rfl, rfl⟩)
                        go_meet
                        exact ⟨rfl, hC.out⟩
            · as_aux_lemma =>
                have hwv := hw _ p1
                have hmv := hm _ p2
                obtain ⟨f1, g1⟩ := pos_facts a5 a7
                obtain ⟨f2, g2⟩ := pos_facts a6 a8
                have hl := last_test h0 h1 a6 n0 n1 a8 a9
                rw [← hwv] at f1 g1
                rw [← hmv] at f2 g2 hl
                have f1' := neq_of_eq f1
                have f2' := neq_of_eq f2
                have HI0 := fun W => isInf0_any x0 W h0
                have HI1 := fun W => isInf0_any x1 W h1
                have HA0 := fun W => abs_any x0 W h0
                have HA1 := fun W => abs_any x1 W h1
                have wlt : wv < 18446744073709551616 := by rw [hwv]; exact posW_lt a5
                have mlt : mv < 18446744073709551616 := by rw [hmv]; exact posW_lt a6
                have HS0 := fun W => msign_any wv W wlt
                have HS1 := fun W => msign_any mv W mlt
                have b1 := fun W => run_float_arith (P := Tryz.prog) W .sub 27 .f64 x1 x0 q a1
                have b2 := fun W => run_float_arith (P := Tryz.prog) W .quo 27 .f64 x0 _ pa a2
                have b3 := fun W => run_float_arith (P := Tryz.prog) W .quo 27 .f64 x1 _ pb a3
                have b4 := fun W => run_float_arith (P := Tryz.prog) W .add 27 .f64 pa pb h a4
                have hn' : (nan x0 || nan x1) = false := by rw [n0, n1]; rfl
                obtain rfl := hN.symm.trans hn'
                clear hN
                obtain ⟨i0, hi0⟩ : ∃ i, i = decide (x0 % 9223372036854775808 = 9218868437227405312) := ⟨_, rfl⟩
                obtain ⟨i1, hi1⟩ : ∃ i, i = decide (x1 % 9223372036854775808 = 9218868437227405312) := ⟨_, rfl⟩
                rw [← hi0] at HI0 hc
                rw [← hi1] at HI1 hc
                obtain ⟨zw, hzw⟩ : ∃ z, (FloatKind.f64.format.order wv 0 == some Ordering.eq) = z := ⟨_, rfl⟩
                obtain ⟨zm, hzm⟩ : ∃ z, (FloatKind.f64.format.order mv 0 == some Ordering.eq) = z := ⟨_, rfl⟩
                rw [hzw] at g1
                rw [hzm] at g2
                obtain ⟨sw, hsw⟩ : ∃ z, z = sg wv := ⟨_, rfl⟩
                obtain ⟨sm, hsm⟩ : ∃ z, z = sg mv := ⟨_, rfl⟩
                rw [← hsw] at g1 HS0
                rw [← hsm] at g2 HS1
                unfold leB bigB at hl
                obtain ⟨l, hl1⟩ : ∃ z, (FloatKind.f64.format.order x0 x1 == some Ordering.lt || FloatKind.f64.format.order x0 x1 == some Ordering.eq) = z := ⟨_, rfl⟩
                obtain ⟨u, hl2⟩ : ∃ z, (FloatKind.f64.format.order mv x0 == some Ordering.lt) = z := ⟨_, rfl⟩
                obtain ⟨v, hl3⟩ : ∃ z, (FloatKind.f64.format.order mv x1 == some Ordering.gt) = z := ⟨_, rfl⟩
                obtain ⟨y0, hl4⟩ : ∃ z, (FloatKind.f64.format.order (x0 % 9223372036854775808) 118622047889322841 == some Ordering.gt) = z := ⟨_, rfl⟩
                obtain ⟨y1, hl5⟩ : ∃ z, (FloatKind.f64.format.order (x1 % 9223372036854775808) 118622047889322841 == some Ordering.gt) = z := ⟨_, rfl⟩
                rw [hl1, hl2, hl3, hl4, hl5] at hl
                have HL5 := Lib.hid hl
                have G1 := Lib.hid g1; have G2 := Lib.hid g2; have HC0 := Lib.hid hc
                replace hC := Lib.hid hC
                replace HI0 := Lib.hid HI0; replace HI1 := Lib.hid HI1; replace HA0 := Lib.hid HA0; replace HA1 := Lib.hid HA1; replace HS0 := Lib.hid HS0; replace HS1 := Lib.hid HS1
                clear hl g1 g2 hc hw hm p1 p2 HX hwv hmv a1 a2 a3 a4 a5 a6 a7 a8 a9 n0 n1 e0 e1 wlt mlt hn' hi0 hi1 hsw hsm h0 h1 h2 h3 f1 f2
                go_upto_region 7 with (go_at_call 22; (first | with_reducible refine (HI0.out _).mono ?_ | with_reducible refine (HI1.out _).mono ?_); rintro _ w' ⟨rfl, rfl⟩)
                go_cut [8] (fun s8 wx => s8 = .bool false ∧ wx = wc)
                case first =>
                  as_aux_lemma =>
                    cases i0
                    · go_wp2_with (go_at_call 22; (first | with_reducible refine (HI0.out _).mono ?_ | with_reducible refine (HI1.out _).mono ?_); rintro _ w' ⟨rfl, rfl⟩)
                      go_meet
                      exact ⟨rfl, rfl⟩
                    · obtain rfl : i1 = false := HC0.out
                      go_wp2_with (go_at_call 22; (first | with_reducible refine (HI0.out _).mono ?_ | with_reducible refine (HI1.out _).mono ?_); rintro _ w' ⟨rfl, rfl⟩)
                      go_meet
                      exact ⟨rfl, rfl⟩
                case rest =>
                  as_aux_lemma =>
                    obtain ⟨rfl, rfl⟩ := hcut
                    go_upto_region 8 with (fail)
                    go_cut [9, 10] (fun s9 s10 wx => s9 = .float .f64 q ∧ s10 = .float .f64 h ∧ Cs w.heap.size ga gb x0 x1 x2 x3 w wx)
                    case first =>
                      as_aux_lemma =>
                        go_region_held3 (fun w' => w'.cell? ⟨w.heap.size, 0, none⟩ = some (.float .f64 x0) ∧ w'.cell? ⟨w.heap.size, 1, none⟩ = some (.float .f64 x1) ∧ Cs w.heap.size ga gb x0 x1 x2 x3 w w') (first | exact ⟨hC.out.drew'.c0, hC.out.drew'.c1, hC.out.drew'⟩ | assumption | (have hk := ‹_ ∧ _ ∧ Cs _ _ _ _ _ _ _ _ _›; exact ⟨hk.2.2.drew'.c0, hk.2.2.drew'.c1, hk.2.2.drew'⟩)) (fail)
                        rename_i hk
                        have hE := Lib.hid hk.2.2
                        clear hk
                        go_wp2_with fail
                        go_meet
                        exact ⟨rfl, rfl, hE.out⟩
                    case rest =>
                      as_aux_lemma =>
                        obtain ⟨rfl, rfl, hC⟩ := hcut
                        replace hC := Lib.hid hC
                        clear b1 b2 b3 b4
                        have c0 := hC.out.c0; have c1 := hC.out.c1
                        go_upto_region 13 with (fail)
                        go_cut [107] (fun s2 wx => s2 = .bool false ∧ wx = wc)
                        case first =>
                          as_aux_lemma =>
                            clear hl1 hl2 hl3 hl4 hl5 HL5
                            have g1 : zw = true → sw = false := fun h => by have := G1.out; rw [h, Bool.true_and] at this; exact this
                            have g2 : zm = true → sm = false := fun h => by have := G2.out; rw [h, Bool.true_and] at this; exact this
                            clear G1 G2
                            cases zw <;> cases zm
                            all_goals
                              first | obtain rfl := g1 rfl | skip
                              first | obtain rfl := g2 rfl | skip
                              clear g1 g2
                              go_wp2_with (go_at_call 23; (first | with_reducible refine (HS0.out _).mono ?_ | with_reducible refine (HS1.out _).mono ?_); rintro _ w' ⟨rfl, rfl⟩)
                              go_meet
                              exact ⟨rfl, rfl⟩
                        case rest =>
                          as_aux_lemma =>
                            obtain ⟨rfl, rfl⟩ := hcut
                            clear HS0 HS1 hzw hzm G1 G2
                            have hlc := last_cases HL5.out
                            clear HL5
                            rcases hlc with rfl | ⟨rfl, rfl, rfl⟩ | ⟨rfl, rfl, rfl⟩ | ⟨rfl, rfl, rfl, rfl⟩ | ⟨rfl, rfl, rfl, rfl⟩ | ⟨rfl, rfl, rfl, rfl, rfl⟩
                            all_goals
                              as_aux_lemma =>
                                go_wp2_with (go_at_call 24; (first | with_reducible refine (HA0.out _).mono ?_ | with_reducible refine (HA1.out _).mono ?_); rintro _ w' ⟨rfl, rfl⟩)
                                go_meet
                                exact ⟨rfl, hC.out⟩
        case rest =>
          obtain ⟨rfl, hC⟩ := hcut
          subst hN
          as_aux_lemma =>
            have e2 : (FloatKind.f64.format.order x2 x2 == some Ordering.eq) = !nan x2 := by rw [← ne_self h2]; simp [bne]
            have e3 : (FloatKind.f64.format.order x3 x3 == some Ordering.eq) = !nan x3 := by rw [← ne_self h3]; simp [bne]
            obtain ⟨c0, c1, c2, c3⟩ := (⟨hC.c0, hC.c1, hC.c2, hC.c3⟩ : _ ∧ _ ∧ _ ∧ _)
            have HO := Lib.hid (show overB x0 x1 x2 x3 = (!(nan x0 || nan x1 || nan x2 || nan x3) && (leB x0 x3 && leB x2 x1)) from rfl)
            obtain ⟨l1, hl1⟩ : ∃ l, l = leB x0 x3 := ⟨_, rfl⟩
            obtain ⟨l2, hl2⟩ : ∃ l, l = leB x2 x1 := ⟨_, rfl⟩
            rw [← hl1, ← hl2] at HO
            unfold leB at hl1 hl2
            have g1 := hl1.symm; have g2 := hl2.symm
            clear hl1 hl2
            go_upto_region 17 with (fail)
            go_cut [7, 11] (fun s7 s wx => s = .bool (overB x0 x1 x2 x3) ∧ wx = wc)
            case first =>
              as_aux_lemma =>
                clear hC HL
                obtain ⟨n0, hn0⟩ : ∃ l, l = (nan x0 || nan x1) := ⟨_, rfl⟩
                rw [← hn0] at HO ⊢
                go_wp2_with fail
                all_goals go_meet
                all_goals refine ⟨?_, rfl⟩
                all_goals rw [HO.out]
                all_goals simp_all
            case rest =>
              obtain ⟨rfl, rfl⟩ := hcut
              as_aux_lemma =>
                obtain ⟨a0, a1, a2, b0, b1, b2⟩ := (⟨hC.a0, hC.a1, hC.a2, hC.b0, hC.b1, hC.b2⟩ : _ ∧ _ ∧ _ ∧ _ ∧ _ ∧ _)
                replace hC := Lib.hid hC
                obtain ⟨O, hO⟩ : ∃ O, O = overB x0 x1 x2 x3 := ⟨_, rfl⟩
                obtain ⟨n, hn⟩ : ∃ n, n = ordV x0 x1 x2 x3 := ⟨_, rfl⟩
                have HO1 := fun w => overlap_any x0 x1 x2 x3 false true w h0 h1 h2 h3
                have HO2 := fun w => overlap_any x2 x3 x0 x1 true false w h2 h3 h0 h1
                rw [over_swap, ← hO] at HO2
                rw [← hO] at HO1 ⊢
                have HR1 := fun w => order2_any x0 x1 x2 x3 false true w h0 h1 h2 h3
                have HR2 := fun w => order2_any x2 x3 x0 x1 true false w h2 h3 h0 h1
                have HR3 := fun w => order2_any x0 x1 x0 x1 false false w h0 h1 h0 h1
                rw [ord_swap, ← hn] at HR2
                rw [← hn] at HR1
                rw [ord_self] at HR3
                obtain ⟨s1, hs1⟩ : ∃ s, s = smB x0 x2 := ⟨_, rfl⟩
                obtain ⟨s2, hs2⟩ : ∃ s, s = smB x1 x3 := ⟨_, rfl⟩
                have HS1 := fun w => same36_any x0 x2 w h0 h2
                have HS2 := fun w => same36_any x1 x3 w h1 h3
                rw [← hs1] at HS1; rw [← hs2] at HS2
                have hs : (s1 && s2) = decide (n = 0) := by
                  rw [hs1, hs2, sm_ky h0 h2, sm_ky h1 h3, hn, Bool.eq_iff_iff]
                  simp [ord_zero]
                obtain ⟨t, ht⟩ : ∃ t, (FloatKind.f64.format.order x0 x2 == some Ordering.lt) = t := ⟨_, rfl⟩
                have ht2 : t = true → n = -1 := by rintro rfl; rw [hn]; exact ord_lt h0 h2 ht
                have hv : n = -1 ∨ n = 0 ∨ n = 1 := by rw [hn]; exact ord_vals _ _ _ _
                replace HO1 := Lib.hid HO1; replace HO2 := Lib.hid HO2; replace HR1 := Lib.hid HR1; replace HR2 := Lib.hid HR2; replace HR3 := Lib.hid HR3; replace HS1 := Lib.hid HS1; replace HS2 := Lib.hid HS2
                clear hs1 hs2 hn hO e0 e1 e2 e3 g1 g2 HO h0 h1 h2 h3 p1 p2
                unfold sv at HO1 HO2 HR1 HR2 HR3
                go_wp2_with fail
                refine (HO1.out _).mono ?_; rintro _ w2 ⟨rfl, hb⟩
                replace hC := Lib.hid (hC.out.later hb)
                replace c0 := hC.out.c0; replace c1 := hC.out.c1; replace c2 := hC.out.c2; replace c3 := hC.out.c3
                replace a0 := hC.out.a0; replace a1 := hC.out.a1; replace a2 := hC.out.a2; replace b0 := hC.out.b0; replace b1 := hC.out.b1; replace b2 := hC.out.b2
                clear hb
                go_wp2_with fail
                refine (HO2.out _).mono ?_; rintro _ w3 ⟨rfl, hb⟩
                replace hC := Lib.hid (hC.out.later hb)
                replace c0 := hC.out.c0; replace c1 := hC.out.c1; replace c2 := hC.out.c2; replace c3 := hC.out.c3
                replace a0 := hC.out.a0; replace a1 := hC.out.a1; replace a2 := hC.out.a2; replace b0 := hC.out.b0; replace b1 := hC.out.b1; replace b2 := hC.out.b2
                clear hb
                go_wp2_with fail
                refine (HR1.out _).mono ?_; rintro _ w4 ⟨rfl, hb⟩
                replace hC := Lib.hid (hC.out.later hb)
                replace c0 := hC.out.c0; replace c1 := hC.out.c1; replace c2 := hC.out.c2; replace c3 := hC.out.c3
                replace a0 := hC.out.a0; replace a1 := hC.out.a1; replace a2 := hC.out.a2; replace b0 := hC.out.b0; replace b1 := hC.out.b1; replace b2 := hC.out.b2
                clear hb
                go_wp2_with fail
                refine (HR2.out _).mono ?_; rintro _ w5 ⟨rfl, hb⟩
                replace hC := Lib.hid (hC.out.later hb)
                replace c0 := hC.out.c0; replace c1 := hC.out.c1; replace c2 := hC.out.c2; replace c3 := hC.out.c3
                replace a0 := hC.out.a0; replace a1 := hC.out.a1; replace a2 := hC.out.a2; replace b0 := hC.out.b0; replace b1 := hC.out.b1; replace b2 := hC.out.b2
                clear hb HO1 HO2 HR1 HR2
                have hst := st_cases hs ht2 hv
                clear hs ht2 hv b0 b1 b2
                rcases hst with ⟨rfl, rfl⟩ | ⟨rfl, rfl, rfl⟩ | ⟨rfl, rfl, rfl, rfl⟩ | ⟨rfl, rfl, rfl⟩ | ⟨rfl, rfl, rfl, rfl⟩
                · as_aux_lemma =>
                    cases t
                    all_goals
                      go_wp2_with (first | (go_at_call 26; with_reducible refine (HR3.out _).mono ?_; rintro _ w6 ⟨rfl, hb⟩; (replace hC := Lib.hid (hC.out.later hb)); (replace c0 := hC.out.c0); (replace c1 := hC.out.c1); (replace c2 := hC.out.c2); (replace c3 := hC.out.c3)) | (go_at_call 18; (first | with_reducible refine (HS1.out _).mono ?_ | with_reducible refine (HS2.out _).mono ?_); rintro _ w' ⟨rfl, rfl⟩) | (go_at_call 9; refine (HL.out _ hC.out.below).mono ?_; rintro _ w7 ⟨rfl, hb7⟩; (replace hC := Lib.hid (hC.out.later hb7))))
                      all_goals go_ret
                      all_goals exact ⟨rfl, hC.out.below⟩
                · as_aux_lemma =>
                    cases t
                    all_goals
                      go_wp2_with (first | (go_at_call 26; with_reducible refine (HR3.out _).mono ?_; rintro _ w6 ⟨rfl, hb⟩; (replace hC := Lib.hid (hC.out.later hb)); (replace c0 := hC.out.c0); (replace c1 := hC.out.c1); (replace c2 := hC.out.c2); (replace c3 := hC.out.c3)) | (go_at_call 18; (first | with_reducible refine (HS1.out _).mono ?_ | with_reducible refine (HS2.out _).mono ?_); rintro _ w' ⟨rfl, rfl⟩) | (go_at_call 9; refine (HL.out _ hC.out.below).mono ?_; rintro _ w7 ⟨rfl, hb7⟩; (replace hC := Lib.hid (hC.out.later hb7))))
                      all_goals go_ret
                      all_goals exact ⟨rfl, hC.out.below⟩
                · as_aux_lemma =>
                    all_goals
                      go_wp2_with (first | (go_at_call 26; with_reducible refine (HR3.out _).mono ?_; rintro _ w6 ⟨rfl, hb⟩; (replace hC := Lib.hid (hC.out.later hb)); (replace c0 := hC.out.c0); (replace c1 := hC.out.c1); (replace c2 := hC.out.c2); (replace c3 := hC.out.c3)) | (go_at_call 18; (first | with_reducible refine (HS1.out _).mono ?_ | with_reducible refine (HS2.out _).mono ?_); rintro _ w' ⟨rfl, rfl⟩) | (go_at_call 9; refine (HL.out _ hC.out.below).mono ?_; rintro _ w7 ⟨rfl, hb7⟩; (replace hC := Lib.hid (hC.out.later hb7))))
                      all_goals go_ret
                      all_goals exact ⟨rfl, hC.out.below⟩
                · as_aux_lemma =>
                    all_goals
                      go_wp2_with (first | (go_at_call 26; with_reducible refine (HR3.out _).mono ?_; rintro _ w6 ⟨rfl, hb⟩; (replace hC := Lib.hid (hC.out.later hb)); (replace c0 := hC.out.c0); (replace c1 := hC.out.c1); (replace c2 := hC.out.c2); (replace c3 := hC.out.c3)) | (go_at_call 18; (first | with_reducible refine (HS1.out _).mono ?_ | with_reducible refine (HS2.out _).mono ?_); rintro _ w' ⟨rfl, rfl⟩) | (go_at_call 9; refine (HL.out _ hC.out.below).mono ?_; rintro _ w7 ⟨rfl, hb7⟩; (replace hC := Lib.hid (hC.out.later hb7))))
                      all_goals go_ret
                      all_goals exact ⟨rfl, hC.out.below⟩
                · as_aux_lemma =>
                    all_goals
                      go_wp2_with (first | (go_at_call 26; with_reducible refine (HR3.out _).mono ?_; rintro _ w6 ⟨rfl, hb⟩; (replace hC := Lib.hid (hC.out.later hb)); (replace c0 := hC.out.c0); (replace c1 := hC.out.c1); (replace c2 := hC.out.c2); (replace c3 := hC.out.c3)) | (go_at_call 18; (first | with_reducible refine (HS1.out _).mono ?_ | with_reducible refine (HS2.out _).mono ?_); rintro _ w' ⟨rfl, rfl⟩) | (go_at_call 9; refine (HL.out _ hC.out.below).mono ?_; rintro _ w7 ⟨rfl, hb7⟩; (replace hC := Lib.hid (hC.out.later hb7))))
                      all_goals go_ret
                      all_goals exact ⟨rfl, hC.out.below⟩
end Ax
end Go.Proofs.YtmebmfgmopdieaaGreatDoor
