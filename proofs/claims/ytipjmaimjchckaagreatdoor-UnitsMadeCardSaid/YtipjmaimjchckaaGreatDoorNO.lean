/- THE WALKS of circaref14 In and Span, of years without Sig. -/
import Derived.Test.YtipjmaimjchckaaGreatDoorNL
import Derived.Test.YtipjmaimjchckaaGreatDoorND
/-! THE WALKS of circaref14 In and Span, of years without Sig. -/
set_option linter.unusedSimpArgs false
set_option linter.unusedVariables false
set_option maxRecDepth 100000
namespace Go.Proofs.YtipjmaimjchckaaGreatDoor
open Go.RowKit Go.Lib
namespace Bk
open Un (ba bt ri rb ret2_ii ret2_bi)

theorem mat_nd {b : Nat → Int} {v : Int} (h0 : 0 ≤ v) : Mat b v ↔ (nd v 4 ≤ 0 ∧ ∀ j, j < 4 → b (3 - j) = 88 ∨ b (3 - j) = 48 + nd v j % 10) := by
  have e4 : nd v 4 = v / 10000 := rfl
  constructor
  · rintro ⟨_, h1, f0, f1, f2, f3⟩
    refine ⟨by omega, fun j hj => ?_⟩
    have hf := nd_facts v h0 h1 j hj
    obtain rfl | rfl | rfl | rfl : j = 0 ∨ j = 1 ∨ j = 2 ∨ j = 3 := by omega
    · have := f3; unfold fitD at this; rw [← hf.2.2.2]; exact this
    · have := f2; unfold fitD at this; rw [← hf.2.2.2]; exact this
    · have := f1; unfold fitD at this; rw [← hf.2.2.2]; exact this
    · have := f0; unfold fitD at this; rw [← hf.2.2.2]; exact this
  · rintro ⟨h1, hf⟩
    have h1 : v ≤ 9999 := by omega
    refine mat_self h0 h1 fun i hi => ?_
    have hd := nd_facts v h0 h1 (3 - i) (by omega)
    have hj := hf (3 - i) (by omega)
    rw [show 3 - (3 - i) = i by omega] at hj hd
    unfold fitD
    rw [hd.2.2.2]; exact hj

/-- The value of a right year that has no X. -/
theorem rMag_ok {d : Dt} (hy : d.dg.size ≤ 1000) (hk : d.yok = true) (hm : d.mask = false) : ∀ w, Calls Tryz.prog 89 #[.string d.dg, .int .i64 d.ex] w fun r w' => r = .returned (.tuple #[.int .i64 d.mag, .int .i64 1]) ∧ w = w' := by
  intro w
  obtain ⟨e, he, hle, hd, hl⟩ : ∃ e : Nat, d.ex = e ∧ e ≤ 16 ∧ allB isDig d.dg = true ∧ d.mag ≤ 10000000000000000 := by
    have hk' : yOk d.neg d.long d.dg d.ex d.sig = true := hk
    cases hl : d.long
    · rw [hl] at hk'
      obtain ⟨a1, a2, a3, a4, a5, a6, a7⟩ := yOk_short hk'
      have hd := (dig_iff a2).1 hm
      refine ⟨0, a3, by omega, hd, ?_⟩
      unfold Dt.mag magV; rw [a3]
      have := decS_lt4 hd a1
      have e : p10 (Int.toNat 0) = 1 := rfl
      rw [e]; omega
    · rw [hl] at hk'
      obtain ⟨a1, a2, a3, a4, a5, a6, a7, a8, a9⟩ := yOk_long hk'
      exact ⟨d.ex.toNat, by omega, by omega, a3, a7⟩
  have := magnitude_any d.dg e w hy (by omega) hd
  rw [he]
  have e2 : magR (magV d.dg e) = (d.mag, 1) := by
    unfold magR; rw [show magV d.dg e = d.mag by unfold Dt.mag; rw [he], if_pos hl]
  rw [e2] at this
  exact this
theorem mask_short {d : Dt} (hk : d.yok = true) (hm : d.mask = true) : d.dg.size = 4 ∧ allB isDigX d.dg = true ∧ d.ex = 0 := by
  have hk' : yOk d.neg d.long d.dg d.ex d.sig = true := hk
  cases hl : d.long
  · rw [hl] at hk'
    obtain ⟨a1, a2, a3, _⟩ := yOk_short hk'
    exact ⟨a1, a2, a3⟩
  · rw [hl] at hk'
    obtain ⟨a1, a2, a3, a4, a5, a6, a7, a8, a9⟩ := yOk_long hk'
    have := (dig_iff (dig_digX a3)).2 a3
    have hm : hasB 88 d.dg = true := hm
    rw [this] at hm; cases hm

def RetIn (I : Prop) (w : World) (e : Ending) (w' : World) : Prop := ∃ x : Int, ((x = 1 ∧ I) ∨ (x = 0 ∧ ¬ I)) ∧ e = .returned (.int .i64 x) ∧ Below w.heap.size w w'

set_option maxHeartbeats 4000000 in
theorem rIn_any (d : Dt) (n : Int) (w : World) (hy : d.dg.size ≤ 1000) (hk : d.yok = true) (hs : d.sig ≤ 0) (n0 : -9223372036854775808 ≤ n) (n1 : n < 9223372036854775808) :
    Calls Tryz.prog 60 #[yv d.neg d.long d.dg d.ex d.sig, .int .i64 n] w (RetIn (d.In n) w) := by
  have hY := Ym.new d.neg d.long d.dg d.ex d.sig w 49
  have hM := fun w => rMasked_any d.neg d.long d.dg d.ex d.sig w (by unfold maxLen; omega)
  change ∀ w, Calls _ _ _ w fun r w' => r = .returned (.int .i64 (if d.mask then 1 else 0)) ∧ _ at hM
  have hbd : d.In n → -10000000000000000 ≤ n ∧ n ≤ 10000000000000000 := fun h => Dt.in_bd hk h
  cases hm : d.mask
  · have HG := Lib.hid (rMag_ok hy hk hm)
    have hI : d.In n ↔ n = (if d.neg = true then -d.mag else d.mag) := by unfold Dt.In; rw [hm]; simp
    have mp : 0 ≤ d.mag := magV_pos _ _
    have mp2 : d.mag ≤ 10000000000000000 := by
      have hx : d.In (if d.neg = true then -d.mag else d.mag) := by unfold Dt.In; rw [hm]; simp
      have := Dt.in_bd hk hx
      split at this <;> omega
    rw [hm] at hM
    have HM := Lib.hid hM
    generalize d.In n = I at *
    generalize d.mag = m at *
    clear hM hm hk
    generalize d.neg = neg at *
    generalize d.long = long at *
    generalize d.dg = s at *
    generalize d.ex = ex at *
    generalize d.sig = sig at *
    have HI := Lib.hid hI
    have HBD := Lib.hid hbd
    clear hI hbd
    unfold yv
    cases neg
    all_goals
      as_aux_lemma =>
        go_enter Tryz.func60, Tryz.ntmps60
        go_upto_region 1 with (fail)
        generalize World.alloc _ _ = W0 at hY ⊢
        obtain ⟨q0, q1, q2, q3, q4, qB⟩ := id hY
        go_wp2_with (first
          | (go_at_call 88; with_reducible refine (HM.out _).mono ?_; rintro _ w' ⟨rfl, hb⟩; replace hY := hY.later (by first | exact hb | exact bt (Below.refl _ _).drew hb | exact bt (Below.refl _ _).drew.drew hb); clear hb; obtain ⟨q0, q1, q2, q3, q4, qB⟩ := id hY)
          | (go_at_call 89; with_reducible refine (HG.out _).mono ?_; rintro _ w' ⟨rfl, rfl⟩))
        rotate_left
        go_quiet (fail)
        go_wp2
        all_goals go_ret
        all_goals
          refine ⟨_, ?_, rfl, by first | exact hY.below | exact below_drewN hY.below _⟩
          have hI := HI.out
          have hbd := HBD.out
          first
          | exact .inl ⟨rfl, hI.2 (by (try simp only [beq_iff_eq, bne_iff_ne, beq_eq_false_iff_ne, decide_eq_true_eq, decide_eq_false_iff_not, Bool.not_eq_true, Bool.and_eq_true, Bool.or_eq_true, ne_eq, if_true, if_false, reduceCtorEq] at *); omega)⟩
          | exact .inr ⟨rfl, fun c => by have h1 := hI.1 c; have h2 := hbd c; (try simp only [beq_iff_eq, bne_iff_ne, beq_eq_false_iff_ne, decide_eq_true_eq, decide_eq_false_iff_not, Bool.not_eq_true, Bool.and_eq_true, Bool.or_eq_true, ne_eq, if_true, if_false, reduceCtorEq] at *); omega⟩
  · obtain ⟨h4, hx, -⟩ := mask_short hk hm
    rw [hm] at hM
    have HM := Lib.hid hM
    obtain ⟨v, hv⟩ : ∃ v, v = (if d.neg = true then -n else n) := ⟨_, rfl⟩
    have hI : d.In n ↔ (Mat (byt d.dg) v ∧ (d.neg = true → v ≠ 0)) := by
      unfold Dt.In; rw [hm, if_pos rfl, hv]
      cases d.neg
      · simp
      · simp only [if_true]
        exact ⟨fun h => ⟨h.1, fun _ => by omega⟩, fun h => ⟨h.1, by have := h.2 (by trivial); omega⟩⟩
    have hnd : ∀ k, k < 4 → nd v (k + 1) = nd v k / 10 := fun k hk => by
      obtain rfl | rfl | rfl | rfl : k = 0 ∨ k = 1 ∨ k = 2 ∨ k = 3 := by omega
      · rfl
      · show v / 100 = v / 10 / 10; omega
      · show v / 1000 = v / 100 / 10; omega
      · show v / 10000 = v / 1000 / 10; omega
    have hn0 : ∀ k, k ≤ 4 → 0 ≤ v → v ≤ 10000000000000000 → 0 ≤ nd v k ∧ nd v k ≤ 10000000000000000 := fun k hk h0 h1 => by
      obtain rfl | rfl | rfl | rfl | rfl : k = 0 ∨ k = 1 ∨ k = 2 ∨ k = 3 ∨ k = 4 := by omega
      · exact ⟨h0, h1⟩
      · show 0 ≤ v / 10 ∧ v / 10 ≤ _; omega
      · show 0 ≤ v / 100 ∧ v / 100 ≤ _; omega
      · show 0 ≤ v / 1000 ∧ v / 1000 ≤ _; omega
      · show 0 ≤ v / 10000 ∧ v / 10000 ≤ _; omega
    have hMat : 0 ≤ v → (Mat (byt d.dg) v ↔ (nd v 4 ≤ 0 ∧ ∀ j, j < 4 → byt d.dg (3 - j) = 88 ∨ byt d.dg (3 - j) = 48 + nd v j % 10)) := fun h => mat_nd h
    have hmb : Mat (byt d.dg) v → 0 ≤ v ∧ v ≤ 9999 := fun h => ⟨h.1, h.2.1⟩
    have hst : nd v 0 = v := rfl
    generalize d.In n = I at *
    generalize Mat (byt d.dg) v = M at *
    generalize nd v = N at *
    clear hM hm hk
    generalize d.neg = neg at *
    generalize d.long = long at *
    generalize d.dg = s at *
    generalize d.ex = ex at *
    generalize d.sig = sig at *
    have HI := Lib.hid hI
    have HMB := Lib.hid hmb
    have HMAT := Lib.hid hMat
    have HND := Lib.hid hnd
    have HN0 := Lib.hid hn0
    have HST := Lib.hid hst
    clear hI hbd hmb hMat hnd hn0 hst hx
    unfold yv
    cases neg
    all_goals
      simp only [if_true, if_false, reduceCtorEq] at hv
      as_aux_lemma =>
        go_enter Tryz.func60, Tryz.ntmps60
        go_upto_region 1 with (fail)
        generalize World.alloc _ _ = W0 at hY ⊢
        obtain ⟨q0, q1, q2, q3, q4, qB⟩ := id hY
        go_wp2_with (go_at_call 88; with_reducible refine (HM.out _).mono ?_; rintro _ w' ⟨rfl, hb⟩; replace hY := hY.later (by first | exact hb | exact bt (Below.refl _ _).drew hb | exact bt (Below.refl _ _).drew.drew hb | exact bt (Below.refl _ _).drew.drew.drew hb); clear hb; obtain ⟨q0, q1, q2, q3, q4, qB⟩ := id hY)
        any_goals
          (go_ret
           refine ⟨_, ?_, rfl, hY.below⟩
           have hI := HI.out
           have hmb := HMB.out
           exact .inr ⟨rfl, fun c => by have h1 := hI.1 c; have h2 := hmb h1.1; have h3 := h1.2; (try simp only [beq_iff_eq, bne_iff_ne, bne_eq_false_iff_eq, beq_eq_false_iff_ne, decide_eq_true_eq, decide_eq_false_iff_not, Bool.not_eq_true, Bool.and_eq_true, Bool.or_eq_true, ne_eq, forall_const, reduceCtorEq, false_implies, implies_true] at *); omega⟩)
        have hvn : 0 ≤ v ∧ v ≤ 10000000000000000 ∧ v ≠ 0 ∨ 0 ≤ v ∧ v ≤ 10000000000000000 ∧ v = n := by (try simp only [beq_iff_eq, bne_iff_ne, bne_eq_false_iff_eq, beq_eq_false_iff_ne, decide_eq_true_eq, decide_eq_false_iff_not, Bool.not_eq_true, Bool.and_eq_true, Bool.or_eq_true, ne_eq] at *); omega
        have HVN : Hid (I ↔ M) := Lib.hid (by
          have hI := HI.out
          rcases hvn with ⟨_, _, hne⟩ | ⟨_, _, he⟩
          · exact hI.trans ⟨fun h => h.1, fun h => ⟨h, fun _ => hne⟩⟩
          · refine hI.trans ⟨fun h => h.1, fun h => ⟨h, fun c => ?_⟩⟩
            first | (cases c; done) | ((try simp only [beq_iff_eq, bne_iff_ne, bne_eq_false_iff_eq, beq_eq_false_iff_ne, decide_eq_true_eq, decide_eq_false_iff_not, Bool.not_eq_true, Bool.and_eq_true, Bool.or_eq_true, ne_eq] at *); omega))
        have v0 : 0 ≤ v := by omega
        have v1 : v ≤ 10000000000000000 := by omega
        clear hvn HI HM
        have HM4 := Lib.hid (HMAT.out v0)
        have HB : Hid (∀ k, k ≤ 4 → 0 ≤ N k ∧ N k ≤ 10000000000000000) := Lib.hid (fun k hk => HN0.out k hk v0 v1)
        clear HN0 HMAT HMB
        have HW := Lib.hid hY.below
        go_loop [1, 5] (fun nv iv => ∃ k : Nat, k ≤ 4 ∧ iv = .int .i64 (3 - (k : Int)) ∧ nv = .int .i64 (N k) ∧ ∀ j, j < k → byt s (3 - j) = 88 ∨ byt s (3 - j) = 48 + N j % 10) (fun _ iv => (intOf iv + 1).toNat)
        case atStart => exact ⟨0, by omega, rfl, congrArg _ (by rw [HST.out]; omega), fun j h => by omega⟩
        case round =>
          obtain ⟨k, hk, rfl, rfl, hj⟩ := hrel
          have HJ := Lib.hid hj
          have b0 := HB.out k hk
          clear hj
          have hk5 : k = 0 ∨ k = 1 ∨ k = 2 ∨ k = 3 ∨ k = 4 := by omega
          by_cases k4 : k = 4
          · subst k4
            by_cases hz : 0 < N 4
            · have HR : Hid (¬ I) := Lib.hid (fun c => by have := (HM4.out.1 (HVN.out.1 c)).1; omega)
              clear hk5
              generalize N 4 = x at *
              rw [show (3 : Int) - ((4 : Nat) : Int) = -1 by omega]
              go_wp2
              go_ret
              exact ⟨_, .inr ⟨rfl, HR.out⟩, rfl, HW.out⟩
            · have HR : Hid I := Lib.hid (HVN.out.2 (HM4.out.2 ⟨by omega, HJ.out⟩))
              clear hk5
              generalize N 4 = x at *
              rw [show (3 : Int) - ((4 : Nat) : Int) = -1 by omega]
              go_wp2
              go_ret
              exact ⟨_, .inl ⟨rfl, HR.out⟩, rfl, HW.out⟩
          · have l3 : 3 - k < s.size := by omega
            have hb := byt_get s (3 - k) l3
            have HE := Lib.hid (HND.out k (by omega))
            have bb := byt_bd s (3 - k)
            have HNO : Hid (¬ (byt s (3 - k) = 88 ∨ byt s (3 - k) = 48 + N k % 10) → ¬ I) := Lib.hid (fun h c => h ((HM4.out.1 (HVN.out.1 c)).2 k (by omega)))
            have HOK : Hid ((byt s (3 - k) = 88 ∨ byt s (3 - k) = 48 + N k % 10) → ∀ j, j < k + 1 → byt s (3 - j) = 88 ∨ byt s (3 - j) = 48 + N j % 10) := Lib.hid (fun h j hj => by
              by_cases e : j = k
              · subst e; exact h
              · exact HJ.out j (by omega))
            have e3 : (3 : Int) - (k : Int) = ((3 - k : Nat) : Int) := by omega
            rw [e3]
            have hm2 : (3 - k : Nat) = 3 - k := rfl
            generalize hq : 3 - k = q at *
            have Q3 := Lib.hid e3
            clear hk5 hm2 hq e3 HB HM4 HJ HND
            generalize N k = x at *
            obtain ⟨x0, x1⟩ := b0
            have m0 : 0 ≤ x % 10 := by omega
            have m1 : x % 10 ≤ 9 := by omega
            have HBQ := Lib.hid hb
            clear hb bb
            have K4 := Lib.hid k4
            clear k4
            by_cases c1 : ((s[q]'l3).toNat : Int) = 88
            · go_wp2
              go_round
              case rel => exact ⟨k + 1, by have := K4.out; omega, congrArg _ (by have := Q3.out; omega), congrArg _ HE.out.symm, HOK.out (.inl (by rw [HBQ.out]; exact c1))⟩
              case measure => first | (simp [intOf]; done) | (simp [intOf]; omega)
            · by_cases c2 : ((s[q]'l3).toNat : Int) = 48 + x % 10
              · go_wp2
                go_round
                case rel => exact ⟨k + 1, by have := K4.out; omega, congrArg _ (by have := Q3.out; omega), congrArg _ HE.out.symm, HOK.out (.inr (by rw [HBQ.out]; exact c2))⟩
                case measure => first | (simp [intOf]; done) | (simp [intOf]; omega)
              · have HR := Lib.hid (HNO.out (by rw [HBQ.out]; omega))
                go_wp2
                all_goals first
                  | (go_ret; exact ⟨_, .inr ⟨rfl, HR.out⟩, rfl, HW.out⟩)
                  | (exfalso; (try simp only [beq_iff_eq, bne_iff_ne, bne_eq_false_iff_eq, beq_eq_false_iff_ne, decide_eq_true_eq, decide_eq_false_iff_not, Bool.not_eq_true, Bool.and_eq_true, Bool.or_eq_true, ne_eq] at *); omega)
end Bk
end Go.Proofs.YtipjmaimjchckaaGreatDoor

/-! THE WALK of circaref14.Span, of years without Sig. -/
set_option linter.unusedSimpArgs false
set_option linter.unusedVariables false
set_option maxRecDepth 100000
namespace Go.Proofs.YtipjmaimjchckaaGreatDoor
open Go.RowKit Go.Lib
namespace Bk
open Un (ba bt ri rb ret2_ii ret2_bi)

theorem ext_one (s : ByteArray) (k : Nat) (h : k < s.size) : (s.extract k (k + 1)).data.toList = [s[k]'h] := by
  rw [ByteArray.data_extract, Array.toList_extract]
  have : s.data.toList.extract k (k + 1) = [s[k]'h] := by
    rw [List.extract_eq_take_drop, show k + 1 - k = 1 by omega, List.take_one, List.head?_drop, List.getElem?_eq_getElem (by simpa using h)]
    rfl
  exact this
theorem loS_data (s : ByteArray) (x : UInt8) : ∀ k, k ≤ s.size → (loS s x k).data.toList = (List.range k).map fun i => if byt s i = 88 then x else s.data.toList.getD i 0
  | 0, _ => rfl
  | k + 1, h => by
    rw [loS_succ, ByteArray.data_append, Array.toList_append, loS_data s x k (by omega), List.range_succ, List.map_append]
    congr 1
    by_cases c : byt s k = 88
    · rw [if_pos c]; simp [c]
    · rw [if_neg c, ext_one s k (by omega)]
      simp only [List.map_cons, List.map_nil, if_neg c]
      rw [List.getD_eq_getElem?_getD, List.getElem?_eq_getElem (by simp; omega)]; rfl
theorem loS_size (s : ByteArray) (x : UInt8) (k : Nat) (h : k ≤ s.size) : (loS s x k).size = k := by
  have := congrArg List.length (loS_data s x k h)
  simpa using this
theorem loS_byt (s : ByteArray) (x : UInt8) (k : Nat) (h : k ≤ s.size) (i : Nat) (hi : i < k) : byt (loS s x k) i = if byt s i = 88 then (x.toNat : Int) else byt s i := by
  rw [byt_list (loS_data s x k h), List.getD_eq_getElem?_getD, List.getElem?_map, List.getElem?_range hi]
  show ((if byt s i = 88 then x else s.data.toList.getD i 0).toNat : Int) = _
  split
  · rfl
  · rfl
theorem dec4 {s : ByteArray} (h4 : s.size = 4) (hd : allB isDig s = true) : decS s = val4 (byt s) := by
  have h : ∀ i, i < 4 → 48 ≤ byt s i ∧ byt s i ≤ 57 := fun i hi => by
    have := (allB_iff _ _).1 hd i (by omega)
    exact of_decide_eq_true this
  have hl : s.data.toList.length = 4 := by simpa using h4
  match e : s.data.toList, hl with
  | [a, b, c, d], _ =>
    have h0 := h 0 (by omega); have h1 := h 1 (by omega); have h2 := h 2 (by omega); have h3 := h 3 (by omega)
    rw [byt_list e] at h0 h1 h2 h3
    unfold decS val4
    rw [byt_list e, byt_list e, byt_list e, byt_list e, e]
    simp only [dec, List.getD_cons_zero, List.getD_cons_succ] at *
    omega
theorem loS_dig {s : ByteArray} {x : UInt8} (h4 : s.size = 4) (hx : allB isDigX s = true) (h0 : 48 ≤ x.toNat) (h1 : x.toNat ≤ 57) : allB isDig (loS s x 4) = true := by
  rw [allB_iff]
  intro i hi
  rw [loS_size s x 4 (by omega)] at hi
  rw [loS_byt s x 4 (by omega) i hi]
  have := digX_asc hx i (by omega)
  unfold isDig
  split
  · exact decide_eq_true (by omega)
  · exact decide_eq_true (by omega)
theorem mag4 {s : ByteArray} (h4 : s.size = 4) (hd : allB isDig s = true) : magV s 0 = val4 (byt s) := by
  unfold magV; rw [show (0 : Int).toNat = 0 from rfl, dec4 h4 hd]; unfold p10; simp

def z4 : ByteArray := ⟨#[48, 48, 48, 48]⟩
/-- The text of 1 at a place, zeros else. -/
def oneS (j : Nat) : ByteArray := z4.extract 0 j ++ ⟨#[49]⟩ ++ z4.extract (j + 1) 4
theorem oneS_facts : ∀ j : Nat, j < 4 → (oneS j).size = 4 ∧ allB isDig (oneS j) = true ∧ (∀ i : Nat, i < 4 → byt (oneS j) i = if i = j then 49 else 48) := by decide

/-- A number that is not 0 is at least 1 at the place of the last X, where all else is 0. -/
theorem least_one {b : Nat → Int} {f : Int} {j : Nat} (hj : j < 4) (hf : Mat b f) (hn : f ≠ 0) (hz : ∀ i, i < 4 → b i = 88 ∨ b i = 48) (hl : ∀ i, j < i → i < 4 → b i ≠ 88) {o : Nat → Int} (ho : ∀ i, i < 4 → o i = if i = j then 49 else 48) : val4 o ≤ f := by
  obtain ⟨d0, d1, d2, d3, a0, a1, a2, a3, a4, a5, a6, a7, hv, e0, e1, e2, e3⟩ := (mat_iff b f).1 hf
  have z0 := hz 0 (by omega); have z1 := hz 1 (by omega); have z2 := hz 2 (by omega); have z3 := hz 3 (by omega)
  have o0 := ho 0 (by omega); have o1 := ho 1 (by omega); have o2 := ho 2 (by omega); have o3 := ho 3 (by omega)
  unfold val4
  obtain rfl | rfl | rfl | rfl : j = 0 ∨ j = 1 ∨ j = 2 ∨ j = 3 := by omega
  · have l1 := hl 1 (by omega) (by omega); have l2 := hl 2 (by omega) (by omega); have l3 := hl 3 (by omega) (by omega)
    simp at o0 o1 o2 o3; omega
  · have l2 := hl 2 (by omega) (by omega); have l3 := hl 3 (by omega) (by omega)
    simp at o0 o1 o2 o3; omega
  · have l3 := hl 3 (by omega) (by omega)
    simp at o0 o1 o2 o3; omega
  · simp at o0 o1 o2 o3; omega

def RetSpan (d : Dt) (w : World) (e : Ending) (w' : World) : Prop := ∃ a b : Int, (∀ y, d.In y → a ≤ y ∧ y ≤ b) ∧ -10000000000000000 ≤ a ∧ b ≤ 10000000000000000 ∧ e = .returned (.tuple #[.int .i64 a, .int .i64 b]) ∧ Below w.heap.size w w'

set_option maxHeartbeats 4000000 in
theorem rSpan_any (d : Dt) (w : World) (hy : d.dg.size ≤ 1000) (hk : d.yok = true) (hs : d.sig ≤ 0) :
    Calls Tryz.prog 68 #[yv d.neg d.long d.dg d.ex d.sig] w (RetSpan d w) := by
  have hY := Ym.new d.neg d.long d.dg d.ex d.sig w 49
  have hM := fun w => rMasked_any d.neg d.long d.dg d.ex d.sig w (by unfold maxLen; omega)
  change ∀ w, Calls _ _ _ w fun r w' => r = .returned (.int .i64 (if d.mask then 1 else 0)) ∧ _ at hM
  cases hm : d.mask
  · have HG := Lib.hid (rMag_ok hy hk hm)
    have hI : ∀ y, d.In y → y = (if d.neg = true then -d.mag else d.mag) := fun y => by unfold Dt.In; rw [hm]; simp
    have mp : 0 ≤ d.mag := magV_pos _ _
    have mp2 : d.mag ≤ 10000000000000000 := by
      have hx : d.In (if d.neg = true then -d.mag else d.mag) := by unfold Dt.In; rw [hm]; simp
      have := Dt.in_bd hk hx
      split at this <;> omega
    rw [hm] at hM
    have HM := Lib.hid hM
    unfold RetSpan
    generalize d.In = I at *
    generalize d.mag = m at *
    clear hM hm hk
    generalize d.neg = neg at *
    generalize d.long = long at *
    generalize d.dg = s at *
    generalize d.ex = ex at *
    generalize d.sig = sig at *
    have HI := Lib.hid hI
    clear hI
    unfold yv
    cases neg
    all_goals
      as_aux_lemma =>
        go_enter Tryz.func68, Tryz.ntmps68
        go_upto_region 1 with (fail)
        generalize World.alloc _ _ = W0 at hY ⊢
        obtain ⟨q0, q1, q2, q3, q4, qB⟩ := id hY
        go_wp2_with (first
          | (go_at_call 88; with_reducible refine (HM.out _).mono ?_; rintro _ w' ⟨rfl, hb⟩; replace hY := hY.later (by first | exact hb | exact bt (Below.refl _ _).drew hb | exact bt (Below.refl _ _).drew.drew hb | exact bt (Below.refl _ _).drew.drew.drew hb); clear hb; obtain ⟨q0, q1, q2, q3, q4, qB⟩ := id hY)
          | (go_at_call 89; with_reducible refine (HG.out _).mono ?_; rintro _ w' ⟨rfl, rfl⟩))
        go_quiet (fail)
        go_wp2_with (first
          | (go_at_call 88; with_reducible refine (HM.out _).mono ?_; rintro _ w' ⟨rfl, hb⟩; replace hY := hY.later (by first | exact hb | exact bt (Below.refl _ _).drew hb | exact bt (Below.refl _ _).drew.drew hb | exact bt (Below.refl _ _).drew.drew.drew hb); clear hb; obtain ⟨q0, q1, q2, q3, q4, qB⟩ := id hY)
          | (go_at_call 89; with_reducible refine (HG.out _).mono ?_; rintro _ w' ⟨rfl, rfl⟩))
        go_ret2
        exact ⟨_, _, fun y h => by have := HI.out y h; simp at this; omega, by omega, by omega, rfl, below_drewN hY.below _⟩
  · obtain ⟨h4, hx, hex⟩ := mask_short hk hm
    rw [hm] at hM
    have HM := Lib.hid hM
    have HMG : Hid (∀ L : ByteArray, L.size = 4 → allB isDig L = true → ∀ w, Calls Tryz.prog 89 #[.string L, .int .i64 d.ex] w fun r w' => r = .returned (.tuple #[.int .i64 (val4 (byt L)), .int .i64 1]) ∧ w = w') := Lib.hid (fun L hl hd w => by
      have := magnitude_any L 0 w (by omega) (by omega) hd
      rw [hex]
      have e : magV L ((0 : Nat) : Int) = val4 (byt L) := mag4 hl hd
      have hb : val4 (byt L) ≤ 9999 := by
        rw [← dec4 hl hd]; have := decS_lt4 hd hl; omega
      have e2 : magR (magV L ((0 : Nat) : Int)) = (val4 (byt L), 1) := by rw [e]; unfold magR; rw [if_pos (by omega)]
      rw [e2] at this
      exact this)
    have hI : ∀ y, d.In y → Mat (byt d.dg) (if d.neg = true then -y else y) ∧ (d.neg = true → y ≠ 0) := fun y h => by
      unfold Dt.In at h; rw [hm, if_pos rfl] at h
      cases hn : d.neg
      · rw [hn] at h; simp at h ⊢; exact h
      · rw [hn] at h; simp at h ⊢; exact h
    have hmk := mok_of h4 hx
    have hLO : (loS d.dg 48 4).size = 4 ∧ allB isDig (loS d.dg 48 4) = true ∧ ∀ f, Mat (byt d.dg) f → val4 (byt (loS d.dg 48 4)) ≤ f :=
      ⟨loS_size _ _ _ (by omega), loS_dig h4 hx (by decide) (by decide), (least_mat hmk (fun i hi => loS_byt d.dg 48 4 (by omega) i hi)).2⟩
    have hHI : (loS d.dg 57 4).size = 4 ∧ allB isDig (loS d.dg 57 4) = true ∧ ∀ f, Mat (byt d.dg) f → f ≤ val4 (byt (loS d.dg 57 4)) :=
      ⟨loS_size _ _ _ (by omega), loS_dig h4 hx (by decide) (by decide), (greatest_mat hmk (fun i hi => loS_byt d.dg 57 4 (by omega) i hi)).2⟩
    have hZ : loS d.dg 48 4 = z4 → ∀ i, i < 4 → byt d.dg i = 88 ∨ byt d.dg i = 48 := fun e i hi => by
      have h1 := loS_byt d.dg 48 4 (by omega) i hi
      rw [e] at h1
      have hz : ∀ i : Nat, i < 4 → byt z4 i = 48 := by decide
      rw [hz i hi] at h1
      split at h1
      · rename_i c; exact .inl c
      · exact .inr h1.symm
    have hv9 : ∀ L : ByteArray, L.size = 4 → allB isDig L = true → 0 ≤ val4 (byt L) ∧ val4 (byt L) ≤ 9999 := fun L hl hd => by
      rw [← dec4 hl hd]; have := decS_lt4 hd hl; have := decS_pos L; omega
    have HV9 := Lib.hid hv9
    unfold RetSpan
    generalize d.In = I at *
    clear hM hm hk hex hmk hv9 hx
    generalize d.neg = neg at *
    generalize d.long = long at *
    generalize d.dg = s at *
    generalize d.ex = ex at *
    generalize d.sig = sig at *
    have HI := Lib.hid hI
    have HLO := Lib.hid hLO
    have HHI := Lib.hid hHI
    have HZ := Lib.hid hZ
    clear hI hLO hHI hZ
    have HSZ : Hid (∀ x k, k ≤ 4 → (loS s x k).size = k) := Lib.hid (fun x k hk => loS_size s x k (by omega))
    have HBX : Hid (∀ k, k < 4 → ((s.extract k (k + 1)).toList == [(88 : UInt8)]) = decide (byt s k = 88)) := Lib.hid (fun k hk => by
      rw [show [(88 : UInt8)] = ByteArray.toList ⟨#[88]⟩ by rw [ByteArray.toList_mk], toList_beq, decide_eq_decide]
      constructor
      · intro e
        have h1 := ext_one s k (by omega)
        rw [e] at h1
        have h2 : [(88 : UInt8)] = [s[k]'(by omega)] := h1
        rw [byt_get s k (by omega), ← (List.cons.inj h2).1]; rfl
      · intro e
        apply ba_ext
        rw [ext_one s k (by omega)]
        rw [byt_get s k (by omega)] at e
        have : s[k]'(by omega) = (88 : UInt8) := by apply UInt8.toNat.inj; show _ = 88; omega
        rw [this])
    unfold yv
    go_enter Tryz.func68, Tryz.ntmps68
    go_upto_region 1 with (fail)
    generalize World.alloc _ _ = W0 at hY ⊢
    obtain ⟨q0, q1, q2, q3, q4, qB⟩ := id hY
    go_wp2_with (go_at_call 88; with_reducible refine (HM.out _).mono ?_; rintro _ w' ⟨rfl, hb⟩; replace hY := hY.later (by first | exact hb | exact bt (Below.refl _ _).drew hb | exact bt (Below.refl _ _).drew.drew hb | exact bt (Below.refl _ _).drew.drew.drew hb); clear hb; obtain ⟨q0, q1, q2, q3, q4, qB⟩ := id hY)
    go_loopw [4, 5, 6] (fun lo hi i wr => ∃ k : Nat, k ≤ 4 ∧ i = .int .i64 k ∧ lo = .string (loS s 48 k) ∧ hi = .string (loS s 57 k) ∧ Ym w.heap.size neg long s ex sig w wr) (fun _ _ i _ => 4 - (intOf i).toNat)
    case atStart => exact ⟨0, by omega, rfl, rfl, rfl, hY⟩
    case round =>
      obtain ⟨k, hk, rfl, rfl, rfl, hY⟩ := hrel
      clear q0 q1 q2 q3 q4 qB
      obtain ⟨q0, q1, q2, q3, q4, qB⟩ := id hY
      by_cases hlt : k < 4
      · have a0 := HSZ.out 48 k (by omega)
        have a1 := HSZ.out 57 k (by omega)
        have HL0 := Lib.hid (loS_succ s 48 k)
        have HL1 := Lib.hid (loS_succ s 57 k)
        have hbx := HBX.out k hlt
        generalize loS s 48 k = A at *
        generalize loS s 57 k = B at *
        have k4 : k < s.size := by omega
        have es : (s.extract k (k + 1)).size = 1 := by rw [ByteArray.size_extract]; omega
        by_cases c : byt s k = 88
        · rw [if_pos c] at HL0 HL1
          rw [decide_eq_true c] at hbx
          have HC := Lib.hid c
          clear c
          go_wp2
          go_quiet (fail)
          go_wp2
          go_roundw
          case rel => exact ⟨k + 1, by omega, by go_num, by rw [HL0.out], by rw [HL1.out], hY.later (below_drewN (Below.refl _ _) _)⟩
          case measure => simp [intOf]; omega
        · rw [if_neg c] at HL0 HL1
          rw [decide_eq_false c] at hbx
          have HC := Lib.hid c
          clear c
          go_wp2
          go_quiet (fail)
          go_wp2
          go_roundw
          case rel => exact ⟨k + 1, by omega, by go_num, by rw [HL0.out], by rw [HL1.out], hY.later (below_drewN (Below.refl _ _) _)⟩
          case measure => simp [intOf]; omega
      · obtain rfl : k = 4 := by omega
        clear HSZ HBX
        obtain ⟨A, hA⟩ : ∃ A, A = loS s 48 4 := ⟨_, rfl⟩
        obtain ⟨B, hB⟩ : ∃ B, B = loS s 57 4 := ⟨_, rfl⟩
        rw [← hA] at HLO HZ ⊢
        rw [← hB] at HHI ⊢
        clear hA hB
        have hZ4 : (A.toList == [(48 : UInt8), 48, 48, 48]) = decide (A = z4) := by
          rw [show [(48 : UInt8), 48, 48, 48] = ByteArray.toList z4 by unfold z4; rw [ByteArray.toList_mk], toList_beq]
        have GB := Lib.hid (HMG.out B HHI.out.1 HHI.out.2.1)
        have vb := HV9.out B HHI.out.1 HHI.out.2.1
        have HVB := Lib.hid HHI.out.2.2
        by_cases hne : neg = true ∧ A = z4
        case neg =>
          have GA := Lib.hid (HMG.out A HLO.out.1 HLO.out.2.1)
          have va := HV9.out A HLO.out.1 HLO.out.2.1
          have HVA := Lib.hid HLO.out.2.2
          clear HMG HV9 HLO HHI HZ HM
          generalize val4 (byt A) = a at *
          generalize val4 (byt B) = b at *
          cases neg
          · clear hZ4
            all_goals
              as_aux_lemma =>
                go_wp2_with (go_at_call 89; first | (with_reducible refine (GA.out _).mono ?_; rintro _ w' ⟨rfl, rfl⟩) | (with_reducible refine (GB.out _).mono ?_; rintro _ w' ⟨rfl, rfl⟩))
                go_ret2
                exact ⟨_, _, fun y h => by have h1 := HI.out y h; simp at h1; have h2 := HVA.out _ h1; have h3 := HVB.out _ h1; omega, by omega, by omega, rfl, hY.below⟩
          · have hA4 : ¬ A = z4 := fun h => hne ⟨rfl, h⟩
            rw [decide_eq_false hA4] at hZ4
            clear hne hA4
            · as_aux_lemma =>
                go_wp2_with (go_at_call 89; first | (with_reducible refine (GA.out _).mono ?_; rintro _ w' ⟨rfl, rfl⟩) | (with_reducible refine (GB.out _).mono ?_; rintro _ w' ⟨rfl, rfl⟩))
                go_ret2
                exact ⟨_, _, fun y h => by have h1 := HI.out y h; simp at h1; have h2 := HVA.out _ h1.1; have h3 := HVB.out _ h1.1; omega, by omega, by omega, rfl, hY.below⟩
        case pos =>
          obtain ⟨rfl, rfl⟩ := hne
          have HZ2 := Lib.hid (HZ.out rfl)
          clear HZ HLO hZ4 HM
          unfold z4
          generalize val4 (byt B) = b at *
          go_wp2
          go_loopw [4, 9] (fun lo i wr => ∃ (k : Nat) (L : ByteArray), k ≤ 4 ∧ i = .int .i64 k ∧ lo = .string L ∧ ((L = z4 ∧ ∀ j, j < k → byt s j ≠ 88) ∨ (∃ j, j < k ∧ byt s j = 88 ∧ (∀ l, j < l → l < k → byt s l ≠ 88) ∧ L = oneS j)) ∧ Ym w.heap.size true long s ex sig w wr) (fun _ i _ => 4 - (intOf i).toNat)
          case atStart => exact ⟨0, _, by omega, rfl, rfl, .inl ⟨rfl, fun j h => by omega⟩, hY⟩
          case round =>
            obtain ⟨k, L, hk, rfl, rfl, hL, hY⟩ := hrel
            clear q0 q1 q2 q3 q4 qB
            obtain ⟨q0, q1, q2, q3, q4, qB⟩ := id hY
            have HL := Lib.hid hL
            clear hL
            by_cases hlt : k < 4
            · have k4 : k < s.size := by omega
              have HB2 := Lib.hid (byt_get s k k4)
              by_cases c : ((s[k]'k4).toNat : Int) = 88
              · go_wp2
                go_quiet (fail)
                go_wp2
                go_roundw
                case rel => exact ⟨k + 1, _, by omega, by go_num, rfl, .inr ⟨k, by omega, by rw [HB2.out]; exact c, fun l h1 h2 => by omega, rfl⟩, hY.later (below_drewN (Below.refl _ _) _)⟩
                case measure => simp [intOf]; omega
              · go_wp2
                go_roundw
                case rel => exact ⟨k + 1, _, by omega, by go_num, rfl, by
                  have hb : byt s k ≠ 88 := by rw [HB2.out]; exact c
                  rcases HL.out with ⟨e1, e2⟩ | ⟨j, e1, e2, e3, e4⟩
                  · refine .inl ⟨e1, fun j hj => ?_⟩
                    by_cases e : j = k
                    · subst e; exact hb
                    · exact e2 j (by omega)
                  · refine .inr ⟨j, by omega, e2, fun l h1 h2 => ?_, e4⟩
                    by_cases e : l = k
                    · subst e; exact hb
                    · exact e3 l h1 (by omega), hY⟩
                case measure => simp [intOf]; omega
            · obtain rfl : k = 4 := by omega
              have hL2 : L.size = 4 ∧ allB isDig L = true ∧ ∀ f, Mat (byt s) f → f ≠ 0 → val4 (byt L) ≤ f := by
                rcases HL.out with ⟨rfl, e2⟩ | ⟨j, e1, e2, e3, rfl⟩
                · refine ⟨rfl, by decide, fun f hf hn => ?_⟩
                  have : val4 (byt z4) = 0 := by decide
                  have := hf.1
                  omega
                · obtain ⟨g1, g2, g3⟩ := oneS_facts j e1
                  exact ⟨g1, g2, fun f hf hn => least_one e1 hf hn HZ2.out e3 g3⟩
              have GA := Lib.hid (HMG.out L hL2.1 hL2.2.1)
              have va := HV9.out L hL2.1 hL2.2.1
              have HVA := Lib.hid hL2.2.2
              clear hL2 HL HMG HV9 HHI HZ2
              generalize val4 (byt L) = a at *
              go_wp2_with (go_at_call 89; first | (with_reducible refine (GA.out _).mono ?_; rintro _ w' ⟨rfl, rfl⟩) | (with_reducible refine (GB.out _).mono ?_; rintro _ w' ⟨rfl, rfl⟩))
              go_ret2
              exact ⟨_, _, fun y h => by have h1 := HI.out y h; simp at h1; have h2 := HVA.out _ h1.1 (by omega); have h3 := HVB.out _ h1.1; omega, by omega, by omega, rfl, hY.below⟩
end Bk
end Go.Proofs.YtipjmaimjchckaaGreatDoor

