/- THE WALKS of circaref16 Len, Months, Compare. -/
import Derived.Test.YtipjmaimjchckaaGreatDoorNO
import Derived.Test.YtipjmaimjchckaaGreatDoorNM
import Derived.Test.YtipjmaimjchckaaGreatDoorNK
import Derived.Test.YtipjmaimjchckaaGreatDoorNI
/-! THE WALKS of circaref16 Len, Months, Compare. -/
set_option linter.unusedSimpArgs false
set_option linter.unusedVariables false
set_option maxRecDepth 100000
namespace Go.Proofs.YtipjmaimjchckaaGreatDoor
open Go.RowKit Go.Lib
namespace Bk
open Un (ba bt ri rb ret2_ii ret2_bi)

/-- What is owned stays owned where all that was there is as it was. -/
theorem own_below {w w' : World} {B e size n : Nat} {v : Value} {xs : List Value} (h : w.ownsRow B e size v n xs) (hb : Below w.heap.size w w') : w'.ownsRow B e size v n xs := by
  refine ⟨h.1, ?_⟩
  rcases h.2 with hn | ⟨g, cap, cur, rfl, hg, hgg, rest⟩
  · exact .inl hn
  · exact .inr ⟨g, cap, cur, rfl, hg, by rw [hb.block g (Array.getElem?_eq_some_iff.1 hgg).1]; exact hgg, rest⟩

theorem rLen_any (y m : Int) (w : World) (m0 : 1 ≤ m) (m1 : m ≤ 12) : Calls Tryz.prog 91 #[.int .i64 y, .int .i64 m] w fun e w' => e = .returned (.int .i64 (Cal.len y m)) ∧ w = w' := by
  by_cases h2 : m = 2
  · subst h2
    have t4 := Un.tmod_test y 4; have t1 := Un.tmod_test2 y 100; have t5 := Un.tmod_test y 400
    by_cases a : y % 4 = 0 <;> by_cases b : y % 100 = 0 <;> by_cases c : y % 400 = 0 <;>
      simp only [a, b, c, decide_true, decide_false, Bool.not_true, Bool.not_false] at t4 t1 t5 <;>
      (have L : Hid (Cal.len y 2 = if (decide (y % 4 = 0) && (decide (y % 100 ≠ 0) || decide (y % 400 = 0))) then 29 else 28) := Lib.hid (by
         unfold Cal.len Cal.lp Cal.leap; rw [if_pos rfl]; split <;> rfl)
       simp only [a, b, c, ne_eq, not_true_eq_false, not_false_eq_true, decide_true, decide_false, Bool.true_and, Bool.false_and, Bool.or_true, Bool.or_false, Bool.true_or, if_true, if_false, Bool.false_eq_true] at L
       clear a b c m0 m1
       go_enter Tryz.func91, Tryz.ntmps91
       go_wp2
       go_ret
       exact ⟨ri (by first | exact L.out.symm | rfl), rfl⟩)
  · have : m = 1 ∨ m = 3 ∨ m = 4 ∨ m = 5 ∨ m = 6 ∨ m = 7 ∨ m = 8 ∨ m = 9 ∨ m = 10 ∨ m = 11 ∨ m = 12 := by omega
    rcases this with rfl | rfl | rfl | rfl | rfl | rfl | rfl | rfl | rfl | rfl | rfl <;>
      (clear m0 m1 h2
       go_enter Tryz.func91, Tryz.ntmps91
       go_wp2
       go_ret
       exact ⟨ri (by unfold Cal.len; simp), rfl⟩)

set_option maxHeartbeats 4000000 in
theorem rMonths_any (d : Dt) (w : World) (hf : d.form = 0) :
    Calls Tryz.prog 90 #[dtv d] w (RetSl d.ms w) := by
  have hD := Dm.new d w 52
  have HS := Lib.hid (fun w => rSeason_any d w)
  unfold dtv at HS
  have hbd : d.season = 0 ∨ (21 ≤ d.season ∧ d.season ≤ 41) := seasonC_bd d.mo
  unfold dtv
  rcases form_facts hf with ⟨h1, h2, -⟩ | ⟨h1, h2, h3, -⟩ | ⟨h1, h2, -⟩
  · have x0 := emp_no h2
    rw [Dt.ms_season h1]
    have z0 : 21 ≤ d.season := by omega
    clear hbd h1 h2 hf
    generalize d.season = z at *
    go_enter Tryz.func90, Tryz.ntmps90
    go_upto_region 1 with (fail)
    generalize World.alloc _ _ = W0 at hD ⊢
    obtain ⟨q0, q1, q2, q3, q4, q5, q6, q7, q8, q9, qB⟩ := id hD
    go_wp2_with (go_at_call 65; with_reducible refine (HS.out _).mono ?_; rintro _ w' ⟨rfl, hb⟩; replace hD := hD.later (by first | exact hb | exact bt (Below.refl _ _).drew hb | exact bt (Below.refl _ _).drew.drew hb | exact bt (Below.refl _ _).drew.drew.drew hb); clear hb; obtain ⟨q0, q1, q2, q3, q4, q5, q6, q7, q8, q9, qB⟩ := id hD)
    go_ret
    exact ⟨_, rfl, IntSl.lit (w := w) z, ba hD.below _⟩
  · have x0 := emp_no h2
    obtain ⟨s2, sx, sn⟩ := someA_facts (by omega) h3
    rw [Dt.ms_fits h1 h2]
    rw [h1] at HS
    have HT := Lib.hid (fun (k : Nat) (hk : k < 12) (x : Int) (hx : x = if agrB d.mo ((k : Int) + 1) then 1 else 0) w => (by rw [hx]; exact rAgrees_any d.mo (k + 1) w (by omega) : Calls Tryz.prog 92 #[.string d.mo, .int .i64 ((k : Int) + 1)] w fun r w' => r = .returned (.int .i64 x) ∧ Below w.heap.size w w'))
    have SN := Lib.hid sn
    obtain ⟨i0, hi, hz0, hz1, hz2⟩ := info_parts info_int
    have HI := Lib.hid hi; have HZ0 := Lib.hid hz0; have HZ1 := Lib.hid hz1; have HZ2 := Lib.hid hz2
    clear hbd h1 h2 h3 hf sn sx s2 hi hz0 hz1 hz2
    go_enter Tryz.func90, Tryz.ntmps90
    go_upto_region 1 with (fail)
    generalize World.alloc _ _ = W0 at hD ⊢
    obtain ⟨q0, q1, q2, q3, q4, q5, q6, q7, q8, q9, qB⟩ := id hD
    go_wp2_with (go_at_call 65; with_reducible refine (HS.out _).mono ?_; rintro _ w' ⟨rfl, hb⟩; replace hD := hD.later (by first | exact hb | exact bt (Below.refl _ _).drew hb | exact bt (Below.refl _ _).drew.drew hb | exact bt (Below.refl _ _).drew.drew.drew hb); clear hb; obtain ⟨q0, q1, q2, q3, q4, q5, q6, q7, q8, q9, qB⟩ := id hD)
    go_loopw [3, 4] (fun v i wr => ∃ k : Nat, k ≤ 12 ∧ i = .int .i64 ((k : Int) + 1) ∧ wr.ownsRow w'.heap.size 3 1 v (fitsL d.mo k).length ((fitsL d.mo k).map (Value.int .i64)) ∧ Below w'.heap.size w' wr) (fun _ i _ => 13 - (intOf i).toNat)
    case atStart => exact ⟨0, Nat.zero_le _, rfl, World.ownsRow_nil _ _ _ _, Below.refl _ _⟩
    case round =>
      obtain ⟨k, hk, rfl, hown, hb⟩ := hrel
      clear q0 q1 q2 q3 q4 q5 q6 q7 q8 q9 qB
      by_cases hlt : k < 12
      · have hle := fits_le d.mo k
        have hD2 := hD.later hb
        obtain ⟨q0, q1, q2, q3, q4, q5, q6, q7, q8, q9, qB⟩ := id hD2
        cases ha : agrB d.mo ((k : Int) + 1)
        · as_aux_lemma =>
            have HA := Lib.hid (fun w => HT.out k hlt 0 (by rw [ha]; rfl) w)
            have HE := Lib.hid (fitsL_no ha)
            have HO := Lib.hid hown
            have HB := Lib.hid hb
            clear ha hown hb
            go_wp2_with (go_at_call 92; with_reducible refine (HA.out _).mono ?_; rintro _ w2 ⟨rfl, hb⟩)
            have HB2 := Lib.hid (bt HB.out hb)
            have hO2 := Lib.hid (own_below HO.out hb)
            go_roundw
            case rel => exact ⟨k + 1, by omega, by go_num, by rw [HE.out]; exact hO2.out, HB2.out⟩
            case measure => simp [intOf]; omega
        · as_aux_lemma =>
            have HA := Lib.hid (fun w => HT.out k hlt 1 (by rw [ha]; rfl) w)
            have HE := Lib.hid (fitsL_yes ha)
            have HO := Lib.hid hown
            have HB := Lib.hid hb
            clear ha hown hb
            go_wp2_with (first
              | (go_at_call 92; with_reducible refine (HA.out _).mono ?_; rintro _ w2 ⟨rfl, hb⟩; have hown := own_below HO.out hb; have hB1 := bt HB.out hb)
              | (at_builtin; refine wpList_append_own _ rfl _ _ 92 rfl w'.heap.size 3 i0 (.int .i64 0) 1 8 Tryz.underlying92 HI.out HZ0.out HZ1.out HZ2.out rfl (by decide) _ _ _ rfl (hown.alloc _) ⟨w2.heap.size, 0, none⟩ 1 1 [.int .i64 ((k : Int) + 1)] rfl rfl ?c1 ?c2 ?c3 ?c4 ?c5 ?_))
            case c1 =>
              intro j u hj
              match j, hj with
              | 0, hj => simp at hj; subst hj; simp [Addr.add]
            case c2 => intro u hu; simp at hu; subst hu; rfl
            case c3 => unfold maxLen; omega
            case c4 => omega
            case c5 => have := hB1.size; simp; omega
            intro v' w3 hown' hgrow _
            have hB2 := (hB1.alloc hB1.size (.cells #[.int .i64 ((k : Int) + 1)] 3)).grown hgrow (by have := hB1.size; simp; omega) (fun j hj => (hown.lt j hj).1)
            have hO2 : w3.ownsRow w'.heap.size 3 1 v' (fitsL d.mo (k + 1)).length ((fitsL d.mo (k + 1)).map (Value.int .i64)) := by rw [HE.out]; simpa using hown'
            replace hB2 := Lib.hid hB2
            replace hO2 := Lib.hid hO2
            clear hown' hgrow hown hB1
            go_wp2
            go_roundw
            case rel => exact ⟨k + 1, by omega, by go_num, hO2.out, hB2.out⟩
            case measure => simp [intOf]; omega
      · as_aux_lemma =>
          obtain rfl : k = 12 := by omega
          have hS := IntSl.own hown SN.out
          have HB := Lib.hid (bt hD.below hb)
          replace hS := Lib.hid hS
          clear hown hb HT
          go_wp2
          go_ret
          exact ⟨_, rfl, hS.out, HB.out⟩
  · have x0 := emp_yes h2
    rw [Dt.ms_none h1 h2]
    clear hbd h1 h2 hf HS
    go_enter Tryz.func90, Tryz.ntmps90
    go_upto_region 1 with (fail)
    generalize World.alloc _ _ = W0 at hD ⊢
    obtain ⟨q0, q1, q2, q3, q4, q5, q6, q7, q8, q9, qB⟩ := id hD
    go_wp2_with fail
    go_ret
    exact ⟨_, rfl, IntSl.lit (w := w) 0, ba hD.below _⟩

theorem info_long : (Tryz.prog.info? 2).map (fun i => (i.zero, i.size, i.bytes)) = some (some (.int .i64 0), 1, 8) := by kernel_rfl
def RetCmp (P : Prop) (w : World) (e : Ending) (w' : World) : Prop := ∃ x : Int, (x = 0 ↔ P) ∧ e = .returned (.int .i64 x) ∧ Below w.heap.size w w'
set_option maxHeartbeats 4000000 in
theorem rCompare_any (d : Dt) (y m k cy cm ck : Int) (w : World) (hmd : d.mo.size = 0 → d.da.size = 0) :
    Calls Tryz.prog 62 #[dtv d, cvv y m k, cvv cy cm ck] w (RetCmp (y = cy ∧ (d.mo.size = 0 ∨ m = cm) ∧ (d.da.size = 0 ∨ k = ck)) w) := by
  have hD : Rw w.heap.size (lstD d) w _ := Rw.fresh (Below.refl _ _) (lstD d) 52
  have hD2 := Rw.fresh hD.below (lstC y m k) 56
  have hD3 := Rw.fresh hD2.below (lstC cy cm ck) 56
  simp only [alloc_size] at hD2 hD3
  have hA : _ ∧ _ ∧ _ := ⟨(hD.later (ba (Below.refl _ _) (.cells (lstC y m k).toArray 56))).later (ba (Below.refl _ _) (.cells (lstC cy cm ck).toArray 56)), hD2.later (ba (Below.refl _ _) (.cells (lstC cy cm ck).toArray 56)), hD3⟩
  clear hD hD2 hD3
  have HC := Lib.hid (fun w => rComps_any d w)
  unfold dtv at HC
  unfold dtv cvv
  unfold lstD lstC at hA
  obtain ⟨n, hn⟩ : ∃ n : Nat, comps d.mo d.da = n := ⟨(comps d.mo d.da).toNat, by have := (comps_bd d.mo d.da).1; omega⟩
  have hn3 : 1 ≤ n ∧ n ≤ 3 := by have := comps_bd d.mo d.da; omega
  obtain ⟨X, hX⟩ : ∃ X : Nat → Int, X = fun j => if j = 0 then y else if j = 1 then m else k := ⟨_, rfl⟩
  obtain ⟨Y, hY⟩ : ∃ Y : Nat → Int, Y = fun j => if j = 0 then cy else if j = 1 then cm else ck := ⟨_, rfl⟩
  have hP : (y = cy ∧ (d.mo.size = 0 ∨ m = cm) ∧ (d.da.size = 0 ∨ k = ck)) ↔ ∀ j, j < n → X j = Y j := by
    subst hX hY
    unfold comps at hn
    by_cases c0 : d.mo.size = 0
    · have c1 := hmd c0
      rw [if_pos c0, if_pos c1] at hn
      obtain rfl : n = 1 := by omega
      constructor
      · rintro ⟨h, _⟩ j hj
        obtain rfl : j = 0 := by omega
        exact h
      · intro h; exact ⟨h 0 (by omega), .inl c0, .inl c1⟩
    · rw [if_neg c0] at hn
      by_cases c1 : d.da.size = 0
      · rw [if_pos c1] at hn
        obtain rfl : n = 2 := by omega
        constructor
        · rintro ⟨h, h2, _⟩ j hj
          obtain rfl | rfl : j = 0 ∨ j = 1 := by omega
          · exact h
          · exact h2.resolve_left c0
        · intro h; exact ⟨h 0 (by omega), .inr (h 1 (by omega)), .inl c1⟩
      · rw [if_neg c1] at hn
        obtain rfl : n = 3 := by omega
        constructor
        · rintro ⟨h, h2, h3⟩ j hj
          obtain rfl | rfl | rfl : j = 0 ∨ j = 1 ∨ j = 2 := by omega
          · exact h
          · exact h2.resolve_left c0
          · exact h3.resolve_left c1
        · intro h; exact ⟨h 0 (by omega), .inr (h 1 (by omega)), .inr (h 2 (by omega))⟩
  rw [hn] at HC
  have HP := Lib.hid hP
  obtain ⟨n0, n3⟩ := hn3
  unfold RetCmp
  clear hn hP hmd
  generalize (y = cy ∧ (d.mo.size = 0 ∨ m = cm) ∧ (d.da.size = 0 ∨ k = ck)) = P at *
  go_enter Tryz.func62, Tryz.ntmps62
  go_upto_region 1 with (fail)
  generalize World.alloc _ _ = W0 at hA ⊢
  have HD := Lib.hid hA.1
  have hE := hA.2.1
  have hF := hA.2.2
  clear hA
  have e0 := hE.cell 0 _ rfl
  have e1 := hE.cell 1 _ rfl
  have e2 := hE.cell 2 _ rfl
  have f0 := hF.cell 0 _ rfl
  have f1 := hF.cell 1 _ rfl
  have f2 := hF.cell 2 _ rfl
  go_cut [7, 8] (fun s7 s8 wx => ∃ ga gb, s7 = .slice (some ⟨ga, 0, none⟩) 3 3 ∧ s8 = .slice (some ⟨gb, 0, none⟩) 3 3 ∧ Rw ga (lstC y m k) w wx ∧ Rw gb (lstC cy cm ck) w wx ∧ Rw w.heap.size (lstD d) w wx)
  case first =>
    clear HC
    have n0 := World.new_ne W0 _ e0
    have n1 := World.new_ne W0 _ f0
    have hB := HD.out.below
    have HN : Hid (∀ la lb : List Value, (Rw W0.heap.size la w (((W0.alloc (.cells la.toArray 2)).alloc (.cells lb.toArray 2)).drew) ∧ Rw (W0.heap.size + 1) lb w (((W0.alloc (.cells la.toArray 2)).alloc (.cells lb.toArray 2)).drew)) ∧ Rw w.heap.size (lstD d) w (((W0.alloc (.cells la.toArray 2)).alloc (.cells lb.toArray 2)).drew)) := Lib.hid (fun la lb => by
      have h1 := Rw.fresh hB la 2
      have h2 := Rw.fresh h1.below lb 2
      rw [alloc_size] at h2
      have b1 := ba (Below.refl (W0.alloc (.cells la.toArray 2)).heap.size (W0.alloc (.cells la.toArray 2))) (.cells lb.toArray 2)
      exact ⟨⟨(h1.later b1).later (Below.refl _ _).drew, h2.later (Below.refl _ _).drew⟩, (HD.out.later (ba (ba (Below.refl _ _) _) _)).later (Below.refl _ _).drew⟩)
    clear hE hF hB
    generalize w.heap.size + 1 + 1 = p6 at *
    generalize w.heap.size + 1 = p5 at *
    go_region_held3 (fun w' => w'.cell? ⟨p5, 0, none⟩ = some (.int .i64 y) ∧ w'.cell? ⟨p5, 1, none⟩ = some (.int .i64 m) ∧ w'.cell? ⟨p5, 2, none⟩ = some (.int .i64 k) ∧ w'.cell? ⟨p6, 0, none⟩ = some (.int .i64 cy) ∧ w'.cell? ⟨p6, 1, none⟩ = some (.int .i64 cm) ∧ w'.cell? ⟨p6, 2, none⟩ = some (.int .i64 ck)) (go_keep) (fail)
    all_goals
      clear e0 e1 e2 f0 f1 f2 n0 n1
      go_wp2_with fail
      go_meet
    · exact ⟨_, _, rfl, rfl, (HN.out (lstC y m k) (lstC cy cm ck)).1.1, (HN.out (lstC y m k) (lstC cy cm ck)).1.2, (HN.out (lstC y m k) (lstC cy cm ck)).2⟩
    · exact ⟨_, _, rfl, rfl, (HN.out (lstC cy cm ck) (lstC y m k)).1.2, (HN.out (lstC cy cm ck) (lstC y m k)).1.1, (HN.out (lstC cy cm ck) (lstC y m k)).2⟩
  case rest =>
    obtain ⟨ga, gb, rfl, rfl, hA, hB, hD⟩ := hcut
    clear e0 e1 e2 f0 f1 f2 hE hF HD
    have hcA : ∀ wr, Rw ga (lstC y m k) w wr → ∀ j, j < 3 → wr.cell? ⟨ga, j, none⟩ = some (.int .i64 (X j)) := fun wr h j hj => by
      subst hX
      obtain rfl | rfl | rfl : j = 0 ∨ j = 1 ∨ j = 2 := by omega
      · exact h.cell 0 _ rfl
      · exact h.cell 1 _ rfl
      · exact h.cell 2 _ rfl
    have hcB : ∀ wr, Rw gb (lstC cy cm ck) w wr → ∀ j, j < 3 → wr.cell? ⟨gb, j, none⟩ = some (.int .i64 (Y j)) := fun wr h j hj => by
      subst hY
      obtain rfl | rfl | rfl : j = 0 ∨ j = 1 ∨ j = 2 := by omega
      · exact h.cell 0 _ rfl
      · exact h.cell 1 _ rfl
      · exact h.cell 2 _ rfl
    have HCA := Lib.hid hcA
    have HCB := Lib.hid hcB
    clear hX hY hcA hcB
    go_wp2
    go_loopw [9] (fun i wr => ∃ j : Nat, j ≤ n ∧ i = .int .i64 j ∧ (∀ l, l < j → X l = Y l) ∧ Rw ga (lstC y m k) w wr ∧ Rw gb (lstC cy cm ck) w wr ∧ Rw w.heap.size (lstD d) w wr) (fun i _ => n - (intOf i).toNat)
    case atStart => exact ⟨0, by omega, rfl, fun l h => by omega, hA, hB, hD⟩
    case round =>
      obtain ⟨j, hj, rfl, hl, hA, hB, hD⟩ := hrel
      have HL := Lib.hid hl
      clear hl
      have hR := hD.range
      obtain ⟨q0, q1, q2, q3, q4, q5, q6, q7, q8, q9⟩ := hD.dcells
      by_cases hlt : j < n
      · have HXY : Hid (X j ≠ Y j → ¬ P) := Lib.hid (fun h c => h (HP.out.1 c j hlt))
        have HE : Hid (X j = Y j → ∀ l, l < j + 1 → X l = Y l) := Lib.hid (fun h l hl => by
          by_cases e : l = j
          · subst e; exact h
          · exact HL.out l (by omega))
        by_cases c : X j = Y j
        · have HE2 := Lib.hid (HE.out c)
          clear HE HXY
          have hcx := Lib.hid (fun wr h => HCA.out wr h j (by omega))
          have hcy := Lib.hid (fun wr h => HCB.out wr h j (by omega))
          rw [← c] at hcy
          generalize X j = a at hcx hcy
          clear c HCA HCB
          as_aux_lemma =>
            go_wp2_with (go_at_call 67; with_reducible refine (HC.out _).mono ?_; rintro _ w2 ⟨rfl, hb⟩; have hA2 := hA.later hb; have hB2 := hB.later hb; have hD2 := hD.later hb; have x0 := hcx.out _ hA2; have y0 := hcy.out _ hB2)
            go_quiet (fail)
            go_wp2
            go_quiet (fail)
            go_wp2
            go_roundw
            case rel => exact ⟨j + 1, by omega, by go_num, HE2.out, hA2.later (by first | exact below_drewN (Below.refl _ _) _ | exact below_drewN (below_drewN (Below.refl _ _) _) _), hB2.later (by first | exact below_drewN (Below.refl _ _) _ | exact below_drewN (below_drewN (Below.refl _ _) _) _), hD2.later (by first | exact below_drewN (Below.refl _ _) _ | exact below_drewN (below_drewN (Below.refl _ _) _) _)⟩
            case measure => simp [intOf]; omega
        · have HR := Lib.hid (HXY.out c)
          clear HE HXY
          have hcx := Lib.hid (fun wr h => HCA.out wr h j (by omega))
          have hcy := Lib.hid (fun wr h => HCB.out wr h j (by omega))
          generalize X j = a at hcx c
          generalize Y j = b at hcy c
          clear HCA HCB
          by_cases c2 : a < b
          · as_aux_lemma =>
              go_wp2_with (go_at_call 67; with_reducible refine (HC.out _).mono ?_; rintro _ w2 ⟨rfl, hb⟩; have hA2 := hA.later hb; have hB2 := hB.later hb; have hD2 := hD.later hb; have x0 := hcx.out _ hA2; have y0 := hcy.out _ hB2)
              go_quiet (fail)
              go_wp2
              go_ret
              exact ⟨-1, ⟨fun h => by omega, fun h => absurd h HR.out⟩, rfl, below_drewN hD2.below _⟩
          · have c3 : b < a := by omega
            as_aux_lemma =>
              go_wp2_with (go_at_call 67; with_reducible refine (HC.out _).mono ?_; rintro _ w2 ⟨rfl, hb⟩; have hA2 := hA.later hb; have hB2 := hB.later hb; have hD2 := hD.later hb; have x0 := hcx.out _ hA2; have y0 := hcy.out _ hB2)
              go_quiet (fail)
              go_wp2
              go_quiet (fail)
              go_wp2
              go_ret
              exact ⟨1, ⟨fun h => by omega, fun h => absurd h HR.out⟩, rfl, below_drewN (below_drewN hD2.below _) _⟩
      · obtain rfl : j = n := by omega
        have HR := Lib.hid (HP.out.2 HL.out)
        clear HCA HCB HP HL
        go_wp2_with (go_at_call 67; with_reducible refine (HC.out _).mono ?_; rintro _ w2 ⟨rfl, hb⟩; have hD2 := hD.later hb)
        go_ret
        exact ⟨0, ⟨fun _ => HR.out, fun _ => rfl⟩, rfl, hD2.below⟩
end Bk
end Go.Proofs.YtipjmaimjchckaaGreatDoor

/-! THE WALKS of circaref16 year, some, Check, Has, All. -/
set_option linter.unusedSimpArgs false
set_option linter.unusedVariables false
set_option maxRecDepth 100000
namespace Go.Proofs.YtipjmaimjchckaaGreatDoor
open Go.RowKit Go.Lib
namespace Bk
open Un (ba bt ri rb ret2_ii ret2_bi)

/-- The fillings of a date in a year, in order. -/
def Dt.yl (d : Dt) (y m : Int) : List Int := if d.da.size = 0 then [0] else fitsL d.da (Cal.len y m).toNat
def civC (y m k : Int) : List Value := [.int .i64 y, .int .i64 m, .int .i64 k]
/-- The cells of the civils of a month. -/
def mcells (y m : Int) (l : List Int) : List Value := l.flatMap fun k => civC y m k
def Dt.ylen (d : Dt) (y : Int) (ms : List Int) : Nat := (ms.map fun m => (d.yl y m).length).sum
def Dt.ycells (d : Dt) (y : Int) (ms : List Int) : List Value := ms.flatMap fun m => mcells y m (d.yl y m)
theorem mcells_snoc (y m : Int) (l : List Int) (k : Int) : mcells y m (l ++ [k]) = mcells y m l ++ civC y m k := by unfold mcells; rw [List.flatMap_append]; simp
theorem Dt.ylen_snoc (d : Dt) (y : Int) (ms : List Int) (m : Int) : d.ylen y (ms ++ [m]) = d.ylen y ms + (d.yl y m).length := by unfold Dt.ylen; simp
theorem Dt.ycells_snoc (d : Dt) (y : Int) (ms : List Int) (m : Int) : d.ycells y (ms ++ [m]) = d.ycells y ms ++ mcells y m (d.yl y m) := by unfold Dt.ycells; rw [List.flatMap_append]; simp
theorem mem_yl {d : Dt} {y m k : Int} : k ∈ d.yl y m ↔ (k ∈ d.ds ∧ k ≤ d.len y m) := by
  have hl := Cal.len_bd y m
  unfold Dt.yl Dt.len Dt.ds
  by_cases c : d.da.size = 0
  · rw [if_pos c, if_pos c, if_pos c]; simp; omega
  · rw [if_neg c, if_neg c, if_neg c, mem_fitsL, mem_fitsL]
    constructor
    · rintro ⟨h1, h2, h3⟩; exact ⟨⟨h1, by omega, h3⟩, by omega⟩
    · rintro ⟨⟨h1, h2, h3⟩, h4⟩; exact ⟨h1, by omega, h3⟩
theorem ylen_le (d : Dt) (y : Int) : ∀ ms : List Int, d.ylen y ms ≤ 31 * ms.length
  | [] => Nat.zero_le _
  | m :: r => by
    have := ylen_le d y r
    have h2 : (d.yl y m).length ≤ 31 := by
      unfold Dt.yl
      split
      · simp
      · have := fitsL_len d.da (Cal.len y m).toNat; have := Cal.len_bd y m; omega
    unfold Dt.ylen at *
    simp at *; omega

theorem own_mono {w : World} {base base' : Nat} {e : TypeId} {size : Nat} {v : Value} {n : Nat} {xs : List Value} (h : w.ownsRow base e size v n xs) (hb : base' ≤ base) : w.ownsRow base' e size v n xs :=
  ⟨h.1, h.2.imp id fun ⟨g, cap, cur, h1, h2, h3⟩ => ⟨g, cap, cur, h1, Nat.le_trans hb h2, h3⟩⟩
theorem info_civ : (Tryz.prog.info? 56).map (fun i => (i.zero, i.size, i.bytes)) = some (some (.agg #[.int .i64 0, .int .i64 0, .int .i64 0]), 3, 24) := by kernel_rfl
/-- What year returns: the fillings of a year, or nil. -/
def RetYl (d : Dt) (y : Int) (w : World) (e : Ending) (w' : World) : Prop := ∃ v, e = .returned v ∧ w'.ownsRow w.heap.size 56 3 v (d.ylen y d.ms) (d.ycells y d.ms) ∧ Below w.heap.size w w'

set_option maxHeartbeats 4000000 in
theorem rYl_any (d : Dt) (y : Int) (w : World) (hf : d.form = 0) :
    Calls Tryz.prog 61 #[dtv d, .int .i64 y] w (RetYl d y w) := by
  have hD := Dm.new d w 52
  have HM := Lib.hid (fun w => rMonths_any d w hf)
  have hmm := Lib.hid (fmm hf)
  have hml := d.ms_len
  unfold dtv at HM
  unfold dtv
  obtain ⟨i0, hi, hz0, hz1, hz2⟩ := info_parts info_civ
  have HI := Lib.hid hi; have HZ0 := Lib.hid hz0; have HZ1 := Lib.hid hz1; have HZ2 := Lib.hid hz2
  clear hi hz0 hz1 hz2 hf
  go_enter Tryz.func61, Tryz.ntmps61
  go_upto_region 1 with (fail)
  generalize World.alloc _ _ = W0 at hD ⊢
  obtain ⟨q0, q1, q2, q3, q4, q5, q6, q7, q8, q9, qB⟩ := id hD
  go_wp2_with (go_at_call 90; refine (HM.out _).mono ?_; rintro _ w1 ⟨mv, rfl, hm, hb⟩; replace hD := hD.later hb; clear hb)
  clear HM
  obtain ⟨gm, cm, rfl, hg, hc⟩ := hm
  have HC := Lib.hid hc
  clear hc q0 q1 q2 q3 q4 q5 q6 q7 q8 q9 qB
  have HW1 := Lib.hid hD.below
  go_loopw [5, 7] (fun v i wr => ∃ k : Nat, k ≤ d.ms.length ∧ i = .int .i64 k ∧ wr.ownsRow w1.heap.size 56 3 v (d.ylen y (d.ms.take k)) (d.ycells y (d.ms.take k)) ∧ Below w1.heap.size w1 wr) (fun _ i _ => 14 - (intOf i).toNat)
  case atStart => exact ⟨0, Nat.zero_le _, rfl, World.ownsRow_nil _ _ _ _, Below.refl _ _⟩
  case round =>
    obtain ⟨k, hk, rfl, hown, hb⟩ := hrel
    have hD2 := hD.later hb
    obtain ⟨q0, q1, q2, q3, q4, q5, q6, q7, q8, q9, qB⟩ := id hD2
    by_cases hlt : k < d.ms.length
    · have hcell : wr.cell? ⟨gm, k, none⟩ = some (.int .i64 (d.ms[k]'hlt)) := (hb.cell (p := ⟨gm, k, none⟩) hg).trans (HC.out k hlt)
      have htk : d.ms.take (k + 1) = d.ms.take k ++ [d.ms[k]'hlt] := by rw [List.take_succ_eq_append_getElem hlt]
      have HL1 := Lib.hid (htk ▸ d.ylen_snoc y (d.ms.take k) (d.ms[k]'hlt) : d.ylen y (d.ms.take (k + 1)) = d.ylen y (d.ms.take k) + (d.yl y (d.ms[k]'hlt)).length)
      have HL2 := Lib.hid (htk ▸ d.ycells_snoc y (d.ms.take k) (d.ms[k]'hlt) : d.ycells y (d.ms.take (k + 1)) = d.ycells y (d.ms.take k) ++ mcells y (d.ms[k]'hlt) (d.yl y (d.ms[k]'hlt)))
      have hle := ylen_le d y (d.ms.take k)
      have htl : (d.ms.take k).length ≤ k := List.length_take_le _ _
      have hm12 := fun h => hmm.out h (d.ms[k]'hlt) (List.getElem_mem hlt)
      generalize d.ylen y (d.ms.take k) = N0 at *
      generalize d.ycells y (d.ms.take k) = C0 at *
      have HM0 := Lib.hid (HC.out k hlt)
      generalize (d.ms[k]'hlt) = m at *
      clear htk
      rcases emp_cases d.da with ⟨e1, x1⟩ | ⟨e1, x1⟩
      · have eyl : d.yl y m = [0] := by unfold Dt.yl; rw [if_pos e1]
        rw [eyl] at HL1 HL2
        have HB := Lib.hid hb
        clear eyl hm12 e1 hb
        as_aux_lemma =>
          go_wp2_with (at_builtin; refine wpList_append_own _ rfl _ _ 72 rfl w1.heap.size 56 i0 (.agg #[.int .i64 0, .int .i64 0, .int .i64 0]) 3 24 Tryz.underlying72 HI.out HZ0.out HZ1.out HZ2.out rfl (by decide) _ _ _ rfl (hown.alloc _) ⟨wr.heap.size, 0, none⟩ 1 1 [.int .i64 y, .int .i64 m, .int .i64 0] rfl rfl ?c1 ?c2 ?c3 ?c4 ?c5 ?_)
          case c1 =>
            intro j u hj
            match j, hj with
            | 0, hj => simp at hj; subst hj; simp [Addr.add]
            | 1, hj => simp at hj; subst hj; simp [Addr.add]
            | 2, hj => simp at hj; subst hj; simp [Addr.add]
          case c2 => intro u hu; simp at hu; rcases hu with rfl | rfl | rfl <;> rfl
          case c3 => unfold maxLen; omega
          case c4 => omega
          case c5 => have := HB.out.size; simp; omega
          intro v' w3 hown' hgrow _
          have hB2 := (HB.out.alloc HB.out.size (.cells #[.int .i64 y, .int .i64 m, .int .i64 0] 56)).grown hgrow (by have := HB.out.size; simp; omega) (fun j hj => (hown.lt j hj).1)
          have hO2 : w3.ownsRow w1.heap.size 56 3 v' (d.ylen y (d.ms.take (k + 1))) (d.ycells y (d.ms.take (k + 1))) := by rw [HL1.out, HL2.out]; exact hown'
          replace hB2 := Lib.hid hB2
          replace hO2 := Lib.hid hO2
          clear hown' hgrow hown
          go_wp2
          go_roundw
          case rel => exact ⟨k + 1, by omega, by go_num, hO2.out, hB2.out⟩
          case measure => simp [intOf]; omega
      · obtain ⟨m0, m12⟩ := hm12 e1
        have eyl : d.yl y m = fitsL d.da (Cal.len y m).toNat := by unfold Dt.yl; rw [if_neg e1]
        have hlb := Cal.len_bd y m
        have HLen := Lib.hid (fun w => rLen_any y m w m0 m12)
        rw [eyl] at HL1 HL2
        have HT := Lib.hid (fun (j : Nat) (hj : j < 31) (x : Int) (hx : x = if agrB d.da ((j : Int) + 1) then 1 else 0) w => (by rw [hx]; exact rAgrees_any d.da (j + 1) w (by omega) : Calls Tryz.prog 92 #[.string d.da, .int .i64 ((j : Int) + 1)] w fun r w' => r = .returned (.int .i64 x) ∧ Below w.heap.size w w'))
        obtain ⟨L, hL⟩ : ∃ L : Nat, Cal.len y m = L := ⟨(Cal.len y m).toNat, by omega⟩
        rw [hL] at HLen HL1 HL2 hlb
        rw [Int.toNat_natCast] at HL1 HL2
        clear eyl hm12 e1 hL m0 m12
        have HB := Lib.hid hb
        clear hb
        go_wp2
        clear q0 q1 q2 q3 q4 q5 q6 q7 q8 q9 qB
        go_loopw [5, 8] (fun v i wr2 => ∃ j : Nat, j ≤ L ∧ i = Value.int .i64 ((j : Int) + 1) ∧ wr2.ownsRow w1.heap.size 56 3 v (N0 + (fitsL d.da j).length) (C0 ++ mcells y m (fitsL d.da j)) ∧ Below w1.heap.size w1 wr2) (fun _ i _ => 33 - (intOf i).toNat)
        case atStart => exact ⟨0, Nat.zero_le _, rfl, by simpa [fitsL, mcells] using hown, HB.out⟩
        case round =>
          obtain ⟨j, hj, rfl, hown, hb⟩ := hrel
          have hD2 := hD.later hb
          obtain ⟨q0, q1, q2, q3, q4, q5, q6, q7, q8, q9, qB⟩ := id hD2
          have hcell : wr.cell? ⟨gm, k, none⟩ = some (.int .i64 m) := by exact (hb.cell (p := ⟨gm, k, none⟩) hg).trans HM0.out
          by_cases hlt2 : j < L
          · have hle2 := fitsL_len d.da j
            cases ha : agrB d.da ((j : Int) + 1)
            · have HA := Lib.hid (fun w => HT.out j (by omega) 0 (by rw [ha]; rfl) w)
              have HE := Lib.hid (fitsL_no ha)
              have HO := Lib.hid hown
              have HB3 := Lib.hid hb
              clear ha hown hb
              as_aux_lemma =>
                go_wp2_with (first
                  | (go_at_call 91; with_reducible refine (HLen.out _).mono ?_; rintro _ w' ⟨rfl, rfl⟩)
                  | (go_at_call 92; with_reducible refine (HA.out _).mono ?_; rintro _ w4 ⟨rfl, hb⟩))
                have HB4 := Lib.hid (bt HB3.out hb)
                have hO2 := Lib.hid (own_below HO.out hb)
                go_roundw
                case rel => exact ⟨j + 1, by omega, by go_num, by rw [HE.out]; exact hO2.out, HB4.out⟩
                case measure => simp [intOf]; omega
            · have HA := Lib.hid (fun w => HT.out j (by omega) 1 (by rw [ha]; rfl) w)
              have HE := Lib.hid (fitsL_yes ha)
              have HO := Lib.hid hown
              have HB3 := Lib.hid hb
              clear ha hown hb
              as_aux_lemma =>
                go_wp2_with (first
                  | (go_at_call 91; with_reducible refine (HLen.out _).mono ?_; rintro _ w' ⟨rfl, rfl⟩)
                  | (go_at_call 92; with_reducible refine (HA.out _).mono ?_; rintro _ w4 ⟨rfl, hb⟩; have hown := own_below HO.out hb; have hB1 := bt HB3.out hb; have hcell2 : w4.cell? ⟨gm, k, none⟩ = some (.int .i64 m) := (hB1.cell (p := ⟨gm, k, none⟩) hg).trans HM0.out)
                  | (at_builtin; refine wpList_append_own _ rfl _ _ 72 rfl w1.heap.size 56 i0 (.agg #[.int .i64 0, .int .i64 0, .int .i64 0]) 3 24 Tryz.underlying72 HI.out HZ0.out HZ1.out HZ2.out rfl (by decide) _ _ _ rfl (hown.alloc _) ⟨w4.heap.size, 0, none⟩ 1 1 [.int .i64 y, .int .i64 m, .int .i64 ((j : Int) + 1)] rfl rfl ?c1 ?c2 ?c3 ?c4 ?c5 ?_))
                case c1 =>
                  intro j u hj
                  match j, hj with
                  | 0, hj => simp at hj; subst hj; simp [Addr.add]
                  | 1, hj => simp at hj; subst hj; simp [Addr.add]
                  | 2, hj => simp at hj; subst hj; simp [Addr.add]
                case c2 => intro u hu; simp at hu; rcases hu with rfl | rfl | rfl <;> rfl
                case c3 => unfold maxLen; omega
                case c4 => omega
                case c5 => have := hB1.size; simp; omega
                intro v' w3 hown' hgrow _
                have hB2 := (hB1.alloc hB1.size (.cells #[.int .i64 y, .int .i64 m, .int .i64 ((j : Int) + 1)] 56)).grown hgrow (by have := hB1.size; simp; omega) (fun j hj => (hown.lt j hj).1)
                have hO2 : w3.ownsRow w1.heap.size 56 3 v' (N0 + (fitsL d.da (j + 1)).length) (C0 ++ mcells y m (fitsL d.da (j + 1))) := by
                  rw [HE.out, mcells_snoc, List.length_append, ← Nat.add_assoc]; exact hown'
                replace hB2 := Lib.hid hB2
                replace hO2 := Lib.hid hO2
                clear hown' hgrow hown
                go_wp2
                go_roundw
                case rel => exact ⟨j + 1, by omega, by go_num, hO2.out, hB2.out⟩
                case measure => simp [intOf]; omega
          · obtain rfl : j = L := by omega
            have hO2 : wr.ownsRow w1.heap.size 56 3 u5 (d.ylen y (d.ms.take (k + 1))) (d.ycells y (d.ms.take (k + 1))) := by rw [HL1.out, HL2.out]; exact hown
            replace hO2 := Lib.hid hO2
            have HB3 := Lib.hid hb
            clear hown hb
            as_aux_lemma =>
              go_wp2_with (go_at_call 91; with_reducible refine (HLen.out _).mono ?_; rintro _ w' ⟨rfl, rfl⟩)
              go_roundw
              case rel => exact ⟨k + 1, by omega, by go_num, hO2.out, HB3.out⟩
              case measure => simp [intOf]; omega
    · obtain rfl : k = d.ms.length := by omega
      rw [List.take_length] at hown
      have HO := Lib.hid (own_mono hown HW1.out.size)
      have HB := Lib.hid (bt HW1.out hb)
      clear hown hb HC hmm
      go_wp2
      go_ret
      exact ⟨_, rfl, HO.out, HB.out⟩

theorem ylen_pos {d : Dt} {y : Int} : 0 < d.ylen y d.ms ↔ ∃ m k, m ∈ d.ms ∧ k ∈ d.ds ∧ k ≤ d.len y m := by
  unfold Dt.ylen
  constructor
  · intro h
    by_cases c : ∃ m, m ∈ d.ms ∧ d.yl y m ≠ []
    · obtain ⟨m, hm, hn⟩ := c
      obtain ⟨k, hk⟩ := List.exists_mem_of_ne_nil _ hn
      exact ⟨m, k, hm, mem_yl.1 hk⟩
    · exfalso
      have : (d.ms.map fun m => (d.yl y m).length).sum = 0 := by
        have h2 : ∀ l : List Int, (∀ m, m ∈ l → d.yl y m = []) → (l.map fun m => (d.yl y m).length).sum = 0 := by
          intro l
          induction l with
          | nil => intro _; rfl
          | cons a l ih => intro h; simp [h a (List.mem_cons_self ..), ih (fun m hm => h m (List.mem_cons_of_mem _ hm))]
        exact h2 d.ms (fun m hm => by
          cases e : d.yl y m with
          | nil => rfl
          | cons a l => exact absurd ⟨m, hm, by rw [e]; simp⟩ c)
      omega
  · rintro ⟨m, k, hm, hk⟩
    have hk := mem_yl.2 hk
    have h2 : ∀ l : List Int, m ∈ l → 0 < (l.map fun m => (d.yl y m).length).sum := by
      intro l
      induction l with
      | nil => intro h; cases h
      | cons a l ih =>
        intro h
        rcases List.mem_cons.1 h with rfl | h
        · have : 0 < (d.yl y m).length := List.length_pos_of_mem hk
          simp; omega
        · have := ih h; simp; omega
    exact h2 d.ms hm

theorem own_slice {w : World} {base : Nat} {e : TypeId} {size : Nat} {v : Value} {n : Nat} {xs : List Value} (h : w.ownsRow base e size v n xs) : ∃ bs cp, v = .slice bs n cp := by
  rcases h.2 with ⟨rfl, rfl⟩ | ⟨g, cap, cur, rfl, _⟩
  · exact ⟨none, 0, rfl⟩
  · exact ⟨_, _, rfl⟩
set_option maxHeartbeats 4000000 in
theorem rSome16_any (d : Dt) (w : World) (hy : d.dg.size ≤ 1000) (hf : d.form = 0) (hs : d.sig ≤ 0) :
    Calls Tryz.prog 57 #[dtv d] w (RetIn (∃ y m k, d.Fill y m k) w) := by
  have hk := (Dt.yearOk_facts (Dt.form_zero hf).1).1
  have hD := Dm.new d w 52
  have HSP := Lib.hid (fun w => rSpan_any d w hy hk hs)
  have HIN := Lib.hid (fun y w h0 h1 => rIn_any d y w hy hk hs h0 h1)
  have HYL := Lib.hid (fun y w => rYl_any d y w hf)
  unfold yv at HSP HIN
  unfold dtv at HYL
  unfold dtv
  obtain ⟨P, hP⟩ : ∃ P : Prop, P = ∃ y m k, d.Fill y m k := ⟨_, rfl⟩
  rw [← hP]
  have HP1 : Hid (∀ y, d.In y → 0 < d.ylen y d.ms → P) := Lib.hid (fun y h1 h2 => by
    obtain ⟨m, k, hm, hk⟩ := ylen_pos.1 h2
    rw [hP]; exact ⟨y, m, k, h1, hm, hk⟩)
  have HP2 : Hid (∀ a b : Int, (∀ y, d.In y → a ≤ y ∧ y ≤ b) → (∀ y, a ≤ y → y ≤ b → d.In y → d.ylen y d.ms = 0) → ¬ P) := Lib.hid (fun a b h1 h2 c => by
    rw [hP] at c
    obtain ⟨y, m, k, f1, f2, f3⟩ := c
    have := h1 y f1
    have h0 := h2 y this.1 this.2 f1
    have := ylen_pos.2 ⟨m, k, f2, f3⟩
    omega)
  clear hP hk hf
  go_enter Tryz.func57, Tryz.ntmps57
  go_upto_region 1 with (fail)
  generalize World.alloc _ _ = W0 at hD ⊢
  obtain ⟨q0, q1, q2, q3, q4, q5, q6, q7, q8, q9, qB⟩ := id hD
  go_wp2_with (go_at_call 68; refine (HSP.out _).mono ?_; rintro _ w1 ⟨a, b, hab, a0, b0, rfl, hb⟩; replace hD := hD.later hb; clear hb)
  have HAB := Lib.hid hab
  clear hab q0 q1 q2 q3 q4 q5 q6 q7 q8 q9 qB HSP
  go_loopw [5] (fun i wr => ∃ y : Int, a ≤ y ∧ (y ≤ b + 1 ∨ y = a) ∧ i = .int .i64 y ∧ (∀ z, a ≤ z → z < y → d.In z → d.ylen z d.ms = 0) ∧ Dm w.heap.size d w wr) (fun i _ => (b + 1 - intOf i).toNat)
  case atStart => exact ⟨a, by omega, .inr rfl, rfl, fun z h1 h2 => by omega, hD⟩
  case round =>
    obtain ⟨y, hy0, hy1, rfl, hz, hD⟩ := hrel
    obtain ⟨q0, q1, q2, q3, q4, q5, q6, q7, q8, q9, qB⟩ := id hD
    have HZ := Lib.hid hz
    clear hz
    by_cases hlt : y ≤ b
    · have HI := Lib.hid (fun w => HIN.out y w (by omega) (by omega))
      by_cases hi : d.In y
      · have HI2 : Hid (∀ w, Calls Tryz.prog 60 #[.agg #[.bool d.neg, .bool d.long, .string d.dg, .int .i64 d.ex, .int .i64 d.sig], .int .i64 y] w fun r w' => r = .returned (.int .i64 1) ∧ Below w.heap.size w w') := Lib.hid (fun w => by
          refine (HI.out w).mono ?_; rintro e w' ⟨x, ⟨rfl, _⟩ | ⟨rfl, h⟩, rfl, hb⟩
          · exact ⟨rfl, hb⟩
          · exact absurd hi h)
        have hL : ∀ w, Calls Tryz.prog 61 #[.agg #[.bool d.neg, .bool d.long, .string d.dg, .int .i64 d.ex, .int .i64 d.sig, .string d.mo, .string d.da, .int .u8 d.m0, .int .u8 d.m1, .int .u8 d.m2], .int .i64 y] w fun r w' => (∃ bs cp, r = .returned (.slice bs (d.ylen y d.ms) cp)) ∧ Below w.heap.size w w' := fun w => by
          refine (HYL.out y w).mono ?_; rintro e w' ⟨v, rfl, hown, hb⟩
          obtain ⟨bs, cp, rfl⟩ := own_slice hown
          exact ⟨⟨bs, cp, rfl⟩, hb⟩
        by_cases hn : d.ylen y d.ms = 0
        · rw [hn] at hL
          have HL := Lib.hid hL
          have HN := Lib.hid hn
          clear hL hn HI HYL HIN
          as_aux_lemma =>
            go_wp2_with (first
              | (go_at_call 60; with_reducible refine (HI2.out _).mono ?_; rintro _ w2 ⟨rfl, hb⟩; replace hD := hD.later (by first | exact hb | exact bt (Below.refl _ _).drew hb | exact bt (Below.refl _ _).drew.drew hb | exact bt (Below.refl _ _).drew.drew.drew hb); clear hb; obtain ⟨q0, q1, q2, q3, q4, q5, q6, q7, q8, q9, qB⟩ := id hD)
              | (go_at_call 61; with_reducible refine (HL.out _).mono ?_; rintro _ w3 ⟨⟨bs, cp, rfl⟩, hb⟩; replace hD := hD.later (by first | exact hb | exact bt (Below.refl _ _).drew hb | exact bt (Below.refl _ _).drew.drew hb | exact bt (Below.refl _ _).drew.drew.drew hb); clear hb; obtain ⟨q0, q1, q2, q3, q4, q5, q6, q7, q8, q9, qB⟩ := id hD))
            go_roundw
            case rel => exact ⟨y + 1, by omega, .inl (by omega), by go_num, fun z h1 h2 h3 => by
              by_cases e : z = y
              · subst e; exact HN.out
              · exact HZ.out z h1 (by omega) h3, hD⟩
            case measure => simp [intOf]; omega
        · have HPP := Lib.hid (HP1.out y hi (by omega))
          obtain ⟨N, hN⟩ : ∃ N, d.ylen y d.ms = N + 1 := ⟨d.ylen y d.ms - 1, by omega⟩
          rw [hN] at hL
          have HL := Lib.hid hL
          clear hL hn HI HYL HIN hN
          as_aux_lemma =>
            go_wp2_with (first
              | (go_at_call 60; with_reducible refine (HI2.out _).mono ?_; rintro _ w2 ⟨rfl, hb⟩; replace hD := hD.later (by first | exact hb | exact bt (Below.refl _ _).drew hb | exact bt (Below.refl _ _).drew.drew hb | exact bt (Below.refl _ _).drew.drew.drew hb); clear hb; obtain ⟨q0, q1, q2, q3, q4, q5, q6, q7, q8, q9, qB⟩ := id hD)
              | (go_at_call 61; with_reducible refine (HL.out _).mono ?_; rintro _ w3 ⟨⟨bs, cp, rfl⟩, hb⟩; replace hD := hD.later (by first | exact hb | exact bt (Below.refl _ _).drew hb | exact bt (Below.refl _ _).drew.drew hb | exact bt (Below.refl _ _).drew.drew.drew hb); clear hb; obtain ⟨q0, q1, q2, q3, q4, q5, q6, q7, q8, q9, qB⟩ := id hD))
            all_goals first
              | (go_ret; exact ⟨1, .inl ⟨rfl, HPP.out⟩, rfl, hD.below⟩)
              | (exfalso; omega)
      · have HI2 : Hid (∀ w, Calls Tryz.prog 60 #[.agg #[.bool d.neg, .bool d.long, .string d.dg, .int .i64 d.ex, .int .i64 d.sig], .int .i64 y] w fun r w' => r = .returned (.int .i64 0) ∧ Below w.heap.size w w') := Lib.hid (fun w => by
          refine (HI.out w).mono ?_; rintro e w' ⟨x, ⟨rfl, h⟩ | ⟨rfl, _⟩, rfl, hb⟩
          · exact absurd h hi
          · exact ⟨rfl, hb⟩)
        have HN := Lib.hid hi
        clear HI HYL HIN hi
        as_aux_lemma =>
          go_wp2_with (go_at_call 60; with_reducible refine (HI2.out _).mono ?_; rintro _ w2 ⟨rfl, hb⟩; replace hD := hD.later (by first | exact hb | exact bt (Below.refl _ _).drew hb | exact bt (Below.refl _ _).drew.drew hb | exact bt (Below.refl _ _).drew.drew.drew hb); clear hb; obtain ⟨q0, q1, q2, q3, q4, q5, q6, q7, q8, q9, qB⟩ := id hD)
          go_roundw
          case rel => exact ⟨y + 1, by omega, .inl (by omega), by go_num, fun z h1 h2 h3 => by
            by_cases e : z = y
            · subst e; exact absurd h3 HN.out
            · exact HZ.out z h1 (by omega) h3, hD⟩
          case measure => simp [intOf]; omega
    · have HNP := Lib.hid (HP2.out a b HAB.out (fun z h1 h2 h3 => HZ.out z h1 (by omega) h3))
      clear HZ HAB HYL HIN
      as_aux_lemma =>
        go_wp2
        go_ret
        exact ⟨0, .inr ⟨rfl, HNP.out⟩, rfl, hD.below⟩

/-- The error of a date, as the reference says it. -/
theorem r16Check_any (d : Dt) (w : World) (hy : d.dg.size ≤ 1000) (s0 : -9223372036854775808 ≤ d.sig) (s1 : d.sig < 9223372036854775808) (m0 : 0 ≤ d.m0) (m1 : 0 ≤ d.m1) (m2 : 0 ≤ d.m2) :
    Calls Tryz.prog 29 #[dtv d] w fun r w' => r = .returned (.int .i64 d.err) ∧ Below w.heap.size w w' := by
  have hD := Dm.new d w 52
  have HC := Lib.hid (fun w => rDCheck_any d w hy s0 s1 m0 m1 m2)
  unfold dtv at HC
  obtain ⟨R, hR⟩ : ∃ R, R = d.err := ⟨_, rfl⟩
  rw [← hR]
  unfold dtv
  by_cases hf : d.form = 0
  case neg =>
    rw [err_form hf] at hR
    rw [← hR] at HC hf
    clear hR
    go_enter Tryz.func29, Tryz.ntmps29
    go_upto_region 1 with (fail)
    generalize World.alloc _ _ = W0 at hD ⊢
    obtain ⟨q0, q1, q2, q3, q4, q5, q6, q7, q8, q9, qB⟩ := id hD
    go_wp2_with (go_at_call 56; with_reducible refine (HC.out _).mono ?_; rintro _ w' ⟨rfl, hb⟩; replace hD := hD.later (by first | exact hb | exact bt (Below.refl _ _).drew hb | exact bt (Below.refl _ _).drew.drew hb | exact bt (Below.refl _ _).drew.drew.drew hb); clear hb; obtain ⟨q0, q1, q2, q3, q4, q5, q6, q7, q8, q9, qB⟩ := id hD)
    go_ret
    exact ⟨rfl, hD.below⟩
  rw [hf] at HC
  rcases emp_cases d.da with ⟨c, x⟩ | ⟨c, x⟩
  case inl =>
    rw [err_plain hf c] at hR
    subst hR
    clear c hf
    go_enter Tryz.func29, Tryz.ntmps29
    go_upto_region 1 with (fail)
    generalize World.alloc _ _ = W0 at hD ⊢
    obtain ⟨q0, q1, q2, q3, q4, q5, q6, q7, q8, q9, qB⟩ := id hD
    go_wp2_with (go_at_call 56; with_reducible refine (HC.out _).mono ?_; rintro _ w' ⟨rfl, hb⟩; replace hD := hD.later (by first | exact hb | exact bt (Below.refl _ _).drew hb | exact bt (Below.refl _ _).drew.drew hb | exact bt (Below.refl _ _).drew.drew.drew hb); clear hb; obtain ⟨q0, q1, q2, q3, q4, q5, q6, q7, q8, q9, qB⟩ := id hD)
    go_ret
    exact ⟨rfl, hD.below⟩
  have hsg : d.sig ≤ 0 := by
    have := (Dt.yearOk_facts (Dt.form_zero hf).1).2.1
    by_cases g : 0 < d.sig
    · exact absurd (fmd hf (this g)) c
    · omega
  have hS := fun w => rSome16_any d w hy hf hsg
  unfold dtv at hS
  by_cases hP : ∃ y m k, d.Fill y m k
  · have HS : Hid (∀ w, Calls Tryz.prog 57 #[.agg #[.bool d.neg, .bool d.long, .string d.dg, .int .i64 d.ex, .int .i64 d.sig, .string d.mo, .string d.da, .int .u8 d.m0, .int .u8 d.m1, .int .u8 d.m2]] w fun r w' => r = .returned (.int .i64 1) ∧ Below w.heap.size w w') := Lib.hid (fun w => by
      refine (hS w).mono ?_; rintro e w' ⟨x, ⟨rfl, _⟩ | ⟨rfl, h⟩, rfl, hb⟩
      · exact ⟨rfl, hb⟩
      · exact absurd hP h)
    have hR0 : R = 0 := by rw [hR]; unfold Dt.err; rw [if_neg (by omega), if_neg (fun h => h.2 hP)]
    subst hR0
    clear hS hR hP hf c
    go_enter Tryz.func29, Tryz.ntmps29
    go_upto_region 1 with (fail)
    generalize World.alloc _ _ = W0 at hD ⊢
    obtain ⟨q0, q1, q2, q3, q4, q5, q6, q7, q8, q9, qB⟩ := id hD
    go_wp2_with (first | (go_at_call 56; with_reducible refine (HC.out _).mono ?_; rintro _ w' ⟨rfl, hb⟩; replace hD := hD.later (by first | exact hb | exact bt (Below.refl _ _).drew hb | exact bt (Below.refl _ _).drew.drew hb | exact bt (Below.refl _ _).drew.drew.drew hb); clear hb; obtain ⟨q0, q1, q2, q3, q4, q5, q6, q7, q8, q9, qB⟩ := id hD) | (go_at_call 57; with_reducible refine (HS.out _).mono ?_; rintro _ w' ⟨rfl, hb⟩; replace hD := hD.later (by first | exact hb | exact bt (Below.refl _ _).drew hb | exact bt (Below.refl _ _).drew.drew hb | exact bt (Below.refl _ _).drew.drew.drew hb); clear hb; obtain ⟨q0, q1, q2, q3, q4, q5, q6, q7, q8, q9, qB⟩ := id hD))
    go_ret
    exact ⟨rfl, hD.below⟩
  · have HS : Hid (∀ w, Calls Tryz.prog 57 #[.agg #[.bool d.neg, .bool d.long, .string d.dg, .int .i64 d.ex, .int .i64 d.sig, .string d.mo, .string d.da, .int .u8 d.m0, .int .u8 d.m1, .int .u8 d.m2]] w fun r w' => r = .returned (.int .i64 0) ∧ Below w.heap.size w w') := Lib.hid (fun w => by
      refine (hS w).mono ?_; rintro e w' ⟨x, ⟨rfl, h⟩ | ⟨rfl, _⟩, rfl, hb⟩
      · exact absurd h hP
      · exact ⟨rfl, hb⟩)
    have hR0 : R = 8 := by rw [hR]; unfold Dt.err; rw [if_neg (by omega), if_pos ⟨c, hP⟩]
    subst hR0
    clear hS hR hP hf c
    go_enter Tryz.func29, Tryz.ntmps29
    go_upto_region 1 with (fail)
    generalize World.alloc _ _ = W0 at hD ⊢
    obtain ⟨q0, q1, q2, q3, q4, q5, q6, q7, q8, q9, qB⟩ := id hD
    go_wp2_with (first | (go_at_call 56; with_reducible refine (HC.out _).mono ?_; rintro _ w' ⟨rfl, hb⟩; replace hD := hD.later (by first | exact hb | exact bt (Below.refl _ _).drew hb | exact bt (Below.refl _ _).drew.drew hb | exact bt (Below.refl _ _).drew.drew.drew hb); clear hb; obtain ⟨q0, q1, q2, q3, q4, q5, q6, q7, q8, q9, qB⟩ := id hD) | (go_at_call 57; with_reducible refine (HS.out _).mono ?_; rintro _ w' ⟨rfl, hb⟩; replace hD := hD.later (by first | exact hb | exact bt (Below.refl _ _).drew hb | exact bt (Below.refl _ _).drew.drew hb | exact bt (Below.refl _ _).drew.drew.drew hb); clear hb; obtain ⟨q0, q1, q2, q3, q4, q5, q6, q7, q8, q9, qB⟩ := id hD))
    go_ret
    exact ⟨rfl, hD.below⟩
end Bk
end Go.Proofs.YtipjmaimjchckaaGreatDoor

/-! THE WALKS of circaref16 Has and All. -/
set_option linter.unusedSimpArgs false
set_option linter.unusedVariables false
set_option maxRecDepth 100000
namespace Go.Proofs.YtipjmaimjchckaaGreatDoor
open Go.RowKit Go.Lib
namespace Bk
open Un (ba bt ri rb ret2_ii ret2_bi)

/-- The fillings of a year, as pairs of a month and a day. -/
def Dt.civs (d : Dt) (y : Int) (ms : List Int) : List (Int × Int) := ms.flatMap fun m => (d.yl y m).map fun k => (m, k)
def flat3 (l : List (Int × Int × Int)) : List Value := l.flatMap fun p => civC p.1 p.2.1 p.2.2
theorem civs_len (d : Dt) (y : Int) (ms : List Int) : (d.civs y ms).length = d.ylen y ms := by
  unfold Dt.civs Dt.ylen; rw [List.length_flatMap]; simp
theorem flat3_append (a b : List (Int × Int × Int)) : flat3 (a ++ b) = flat3 a ++ flat3 b := by unfold flat3; rw [List.flatMap_append]
theorem civs_cells (d : Dt) (y : Int) : ∀ ms, d.ycells y ms = flat3 ((d.civs y ms).map fun p => (y, p.1, p.2))
  | [] => rfl
  | m :: r => by
    have ih := civs_cells d y r
    unfold Dt.ycells Dt.civs at *
    rw [List.flatMap_cons, List.flatMap_cons, List.map_append, flat3_append, ← ih]
    congr 1
    unfold mcells flat3
    rw [List.map_map, List.flatMap_map]
    rfl
theorem flat3_len (l : List (Int × Int × Int)) : (flat3 l).length = 3 * l.length := by
  induction l with
  | nil => rfl
  | cons a l ih => unfold flat3 at *; rw [List.flatMap_cons, List.length_append, ih]; simp [civC]; omega
theorem flat3_get : ∀ (l : List (Int × Int × Int)) (i : Nat) (h : i < l.length), (flat3 l)[3 * i]? = some (.int .i64 (l[i]'h).1) ∧ (flat3 l)[3 * i + 1]? = some (.int .i64 (l[i]'h).2.1) ∧ (flat3 l)[3 * i + 2]? = some (.int .i64 (l[i]'h).2.2)
  | a :: l, 0, _ => ⟨rfl, rfl, rfl⟩
  | a :: l, i + 1, h => by
    have ih := flat3_get l i (by simpa using h)
    have e : flat3 (a :: l) = civC a.1 a.2.1 a.2.2 ++ flat3 l := rfl
    have e3 : (civC a.1 a.2.1 a.2.2).length = 3 := rfl
    refine ⟨?_, ?_, ?_⟩
    · rw [e, List.getElem?_append_right (by rw [e3]; omega), e3, show 3 * (i + 1) - 3 = 3 * i by omega]; exact ih.1
    · rw [e, List.getElem?_append_right (by rw [e3]; omega), e3, show 3 * (i + 1) + 1 - 3 = 3 * i + 1 by omega]; exact ih.2.1
    · rw [e, List.getElem?_append_right (by rw [e3]; omega), e3, show 3 * (i + 1) + 2 - 3 = 3 * i + 2 by omega]; exact ih.2.2
theorem mem_civs {d : Dt} {y : Int} {ms : List Int} {p : Int × Int} : p ∈ d.civs y ms ↔ (p.1 ∈ ms ∧ p.2 ∈ d.ds ∧ p.2 ≤ d.len y p.1) := by
  unfold Dt.civs
  rw [List.mem_flatMap]
  constructor
  · rintro ⟨m, hm, hp⟩
    rw [List.mem_map] at hp
    obtain ⟨k, hk, rfl⟩ := hp
    exact ⟨hm, mem_yl.1 hk⟩
  · rintro ⟨h1, h2⟩
    exact ⟨p.1, h1, List.mem_map.2 ⟨p.2, mem_yl.2 h2, rfl⟩⟩
theorem cerr_zero {d : Dt} : d.cerr = 0 ↔ (d.err = 0 ∧ d.sig ≤ 0) := by
  unfold Dt.cerr
  by_cases c : d.err = 0
  · rw [if_neg (by simpa using c)]
    split <;> omega
  · rw [if_pos c]; omega

set_option maxHeartbeats 4000000 in
theorem r16Has_any (d : Dt) (cy cm ck : Int) (w : World) (hy : d.dg.size ≤ 1000) (s0 : -9223372036854775808 ≤ d.sig) (s1 : d.sig < 9223372036854775808) (m0 : 0 ≤ d.m0) (m1 : 0 ≤ d.m1) (m2 : 0 ≤ d.m2)
    (y0 : -9223372036854775808 ≤ cy) (y1 : cy < 9223372036854775808) :
    Calls Tryz.prog 33 #[dtv d, cvv cy cm ck] w (RetIn (d.Has cy cm ck) w) := by
  have hD : Rw w.heap.size (lstD d) w _ := Rw.fresh (Below.refl _ _) (lstD d) 52
  have hD2 := Rw.fresh hD.below (lstC cy cm ck) 56
  simp only [alloc_size] at hD2
  have hA : _ ∧ _ := ⟨hD.later (ba (Below.refl _ _) (.cells (lstC cy cm ck).toArray 56)), hD2⟩
  clear hD hD2
  have HC := Lib.hid (fun w => r16Check_any d w hy s0 s1 m0 m1 m2)
  unfold dtv at HC
  unfold dtv cvv
  unfold lstD lstC at hA
  by_cases c : d.err = 0
  case neg =>
    have HR : Hid (¬ d.Has cy cm ck) := Lib.hid (fun h => c (cerr_zero.1 h.1).1)
    generalize d.err = er at *
    go_enter Tryz.func33, Tryz.ntmps33
    go_upto_region 1 with (fail)
    generalize World.alloc _ _ = W0 at hA ⊢
    have HD : Hid (Rw w.heap.size (lstD d) w W0) := Lib.hid hA.1
    clear hA
    obtain ⟨q0, q1, q2, q3, q4, q5, q6, q7, q8, q9⟩ := HD.out.dcells
    have c2 : ¬ er = 0 := c
    go_wp2_with (go_at_call 29; with_reducible refine (HC.out _).mono ?_; rintro _ w1 ⟨rfl, hb⟩; replace HD := Lib.hid (HD.out.later hb); clear hb)
    go_ret
    exact ⟨0, .inr ⟨rfl, HR.out⟩, rfl, HD.out.below⟩
  rw [c] at HC
  by_cases hg : d.sig ≤ 0
  case neg =>
    have HR : Hid (¬ d.Has cy cm ck) := Lib.hid (fun h => hg (cerr_zero.1 h.1).2)
    have hg1 : 0 < d.sig := by omega
    clear c hg
    go_enter Tryz.func33, Tryz.ntmps33
    go_upto_region 1 with (fail)
    generalize World.alloc _ _ = W0 at hA ⊢
    have HD : Hid (Rw w.heap.size (lstD d) w W0) := Lib.hid hA.1
    clear hA
    obtain ⟨q0, q1, q2, q3, q4, q5, q6, q7, q8, q9⟩ := HD.out.dcells
    go_wp2_with (go_at_call 29; with_reducible refine (HC.out _).mono ?_; rintro _ w1 ⟨rfl, hb⟩; replace HD := Lib.hid (HD.out.later hb); clear hb; clear q0 q1 q2 q3 q4 q5 q6 q7 q8 q9; obtain ⟨q0, q1, q2, q3, q4, q5, q6, q7, q8, q9⟩ := HD.out.dcells)
    go_ret
    exact ⟨0, .inr ⟨rfl, HR.out⟩, rfl, HD.out.below⟩
  have hf := cerr_form (cerr_zero.2 ⟨c, hg⟩)
  have hyk := (Dt.yearOk_facts (Dt.form_zero hf).1).1
  have hI := fun w => rIn_any d cy w hy hyk hg y0 y1
  have hg1 : ¬ 0 < d.sig := by omega
  unfold yv at hI
  by_cases hi : d.In cy
  case neg =>
    have HI2 : Hid (∀ w, Calls Tryz.prog 60 #[.agg #[.bool d.neg, .bool d.long, .string d.dg, .int .i64 d.ex, .int .i64 d.sig], .int .i64 cy] w fun r w' => r = .returned (.int .i64 0) ∧ Below w.heap.size w w') := Lib.hid (fun w => by
      refine (hI w).mono ?_; rintro e w' ⟨x, ⟨rfl, h⟩ | ⟨rfl, _⟩, rfl, hb⟩
      · exact absurd h hi
      · exact ⟨rfl, hb⟩)
    have HR : Hid (¬ d.Has cy cm ck) := Lib.hid (fun h => by obtain ⟨_, n, j, hf, _⟩ := h; exact hi hf.1)
    clear c hg hf hyk hI hi
    go_enter Tryz.func33, Tryz.ntmps33
    go_upto_region 1 with (fail)
    generalize World.alloc _ _ = W0 at hA ⊢
    have HD : Hid (Rw w.heap.size (lstD d) w W0) := Lib.hid hA.1
    have HE : Hid (Rw (w.heap.size + 1) (lstC cy cm ck) w W0) := Lib.hid hA.2
    clear hA
    obtain ⟨q0, q1, q2, q3, q4, q5, q6, q7, q8, q9⟩ := HD.out.dcells
    go_wp2_with (first
      | (go_at_call 29; with_reducible refine (HC.out _).mono ?_; rintro _ w1 ⟨rfl, hb⟩; replace HD := Lib.hid (HD.out.later hb); replace HE := Lib.hid (HE.out.later hb); clear hb; clear q0 q1 q2 q3 q4 q5 q6 q7 q8 q9; obtain ⟨q0, q1, q2, q3, q4, q5, q6, q7, q8, q9⟩ := HD.out.dcells; have e0 := HE.out.cell 0 _ rfl)
      | (go_at_call 60; with_reducible refine (HI2.out _).mono ?_; rintro _ w1 ⟨rfl, hb⟩; replace HD := Lib.hid (HD.out.later hb); clear hb))
    go_ret
    exact ⟨0, .inr ⟨rfl, HR.out⟩, rfl, HD.out.below⟩
  have HI2 : Hid (∀ w, Calls Tryz.prog 60 #[.agg #[.bool d.neg, .bool d.long, .string d.dg, .int .i64 d.ex, .int .i64 d.sig], .int .i64 cy] w fun r w' => r = .returned (.int .i64 1) ∧ Below w.heap.size w w') := Lib.hid (fun w => by
    refine (hI w).mono ?_; rintro e w' ⟨x, ⟨rfl, _⟩ | ⟨rfl, h⟩, rfl, hb⟩
    · exact ⟨rfl, hb⟩
    · exact absurd hi h)
  have hYL := fun w => rYl_any d cy w hf
  unfold dtv RetYl at hYL
  rw [← civs_len, civs_cells] at hYL
  have hP : d.Has cy cm ck ↔ ∃ p, p ∈ d.civs cy d.ms ∧ (d.mo.size = 0 ∨ p.1 = cm) ∧ (d.da.size = 0 ∨ p.2 = ck) := by
    constructor
    · rintro ⟨_, n, j, ⟨_, h2, h3, h4⟩, h5, h6⟩
      exact ⟨(n, j), mem_civs.2 ⟨h2, h3, h4⟩, h5, h6⟩
    · rintro ⟨p, hp, h5, h6⟩
      obtain ⟨h2, h3, h4⟩ := mem_civs.1 hp
      exact ⟨cerr_zero.2 ⟨c, hg⟩, p.1, p.2, ⟨hi, h2, h3, h4⟩, h5, h6⟩
  have hCmp := fun m k w => rCompare_any d cy m k cy cm ck w (fmd hf)
  unfold dtv cvv at hCmp
  have hLn : (d.civs cy d.ms).length ≤ 372 := by rw [civs_len]; have := ylen_le d cy d.ms; have := d.ms_len; omega
  generalize d.civs cy d.ms = L at *
  generalize d.Has cy cm ck = P at *
  have HP := Lib.hid hP
  have HYL := Lib.hid hYL
  have HCM := Lib.hid hCmp
  clear hP hYL hCmp hi hI hyk hf c hg
  go_enter Tryz.func33, Tryz.ntmps33
  go_upto_region 1 with (fail)
  generalize World.alloc _ _ = W0 at hA ⊢
  have HD : Hid (Rw w.heap.size (lstD d) w W0) := Lib.hid hA.1
  have HE : Hid (Rw (w.heap.size + 1) (lstC cy cm ck) w W0) := Lib.hid hA.2
  clear hA
  obtain ⟨q0, q1, q2, q3, q4, q5, q6, q7, q8, q9⟩ := HD.out.dcells
  go_wp2_with (first
    | (go_at_call 29; with_reducible refine (HC.out _).mono ?_; rintro _ w1 ⟨rfl, hb⟩; replace HD := Lib.hid (HD.out.later hb); replace HE := Lib.hid (HE.out.later hb); clear hb; clear q0 q1 q2 q3 q4 q5 q6 q7 q8 q9; obtain ⟨q0, q1, q2, q3, q4, q5, q6, q7, q8, q9⟩ := HD.out.dcells; have e0 := HE.out.cell 0 _ rfl)
    | (go_at_call 60; with_reducible refine (HI2.out _).mono ?_; rintro _ w1 ⟨rfl, hb⟩; replace HD := Lib.hid (HD.out.later hb); replace HE := Lib.hid (HE.out.later hb); clear hb; clear q0 q1 q2 q3 q4 q5 q6 q7 q8 q9 e0; obtain ⟨q0, q1, q2, q3, q4, q5, q6, q7, q8, q9⟩ := HD.out.dcells; have e0 := HE.out.cell 0 _ rfl)
    | (go_at_call 61; refine (HYL.out _).mono ?_; rintro _ w2 ⟨v, rfl, hown, hb⟩; replace HD := Lib.hid (HD.out.later hb); replace HE := Lib.hid (HE.out.later hb); clear hb; clear q0 q1 q2 q3 q4 q5 q6 q7 q8 q9 e0))
  have hRow : ∃ bs cp, v = .slice bs L.length cp ∧ ∀ i (h : i < L.length), ∃ g, bs = some ⟨g, 0, none⟩ ∧ g < w2.heap.size ∧ w2.cell? ⟨g, 3 * i, none⟩ = some (.int .i64 cy) ∧ w2.cell? ⟨g, 3 * i + 1, none⟩ = some (.int .i64 (L[i]'h).1) ∧ w2.cell? ⟨g, 3 * i + 2, none⟩ = some (.int .i64 (L[i]'h).2) := by
    rcases hown.2 with ⟨rfl, h0⟩ | ⟨g, cap, cur, rfl, hg, hh, _⟩
    · exact ⟨none, 0, by rw [h0], fun i h => by omega⟩
    · refine ⟨_, _, rfl, fun i h => ⟨g, rfl, ?_, ?_⟩⟩
      · by_cases c : g < w2.heap.size
        · exact c
        · rw [Array.getElem?_eq_none (by omega)] at hh; cases hh
      · have h3 := flat3_get (L.map fun p => (cy, p.1, p.2)) i (by simpa using h)
        rw [hown.cellAt (3 * i) (by omega), hown.cellAt (3 * i + 1) (by omega), hown.cellAt (3 * i + 2) (by omega)]
        simpa using h3
  obtain ⟨bs, cp, rfl, hcl⟩ := hRow
  have HCL := Lib.hid hcl
  clear hcl hown HYL HC HI2
  go_loopw [6] (fun i wr => ∃ j : Nat, j ≤ L.length ∧ i = .int .i64 j ∧ (∀ l (h : l < L.length), l < j → ¬ ((d.mo.size = 0 ∨ (L[l]'h).1 = cm) ∧ (d.da.size = 0 ∨ (L[l]'h).2 = ck))) ∧ Below w2.heap.size w2 wr) (fun i _ => L.length - (intOf i).toNat)
  case atStart => exact ⟨0, by omega, rfl, fun l h h2 => by omega, Below.refl _ _⟩
  case round =>
    obtain ⟨j, hj, rfl, hl, hb⟩ := hrel
    have hD := HD.out.later hb
    have hE := HE.out.later hb
    have HL := Lib.hid hl
    clear hl
    by_cases hlt : j < L.length
    · obtain ⟨g, rfl, hg, c0, c1, c2⟩ := HCL.out j hlt
      have g0 : wr.cell? ⟨g, 3 * j, none⟩ = some (.int .i64 cy) := (hb.cell (p := ⟨g, 3 * j, none⟩) hg).trans c0
      have g1 : wr.cell? ⟨g, 3 * j + 1, none⟩ = some (.int .i64 (L[j]'hlt).1) := (hb.cell (p := ⟨g, 3 * j + 1, none⟩) hg).trans c1
      have g2 : wr.cell? ⟨g, 3 * j + 2, none⟩ = some (.int .i64 (L[j]'hlt).2) := (hb.cell (p := ⟨g, 3 * j + 2, none⟩) hg).trans c2
      rw [Nat.mul_comm] at g0 g1 g2
      have HPY := Lib.hid (fun (h : (d.mo.size = 0 ∨ (L[j]'hlt).1 = cm) ∧ (d.da.size = 0 ∨ (L[j]'hlt).2 = ck)) => HP.out.2 ⟨_, List.getElem_mem hlt, h⟩)
      have HPN : Hid (¬ ((d.mo.size = 0 ∨ (L[j]'hlt).1 = cm) ∧ (d.da.size = 0 ∨ (L[j]'hlt).2 = ck)) → ∀ l (h : l < L.length), l < j + 1 → ¬ ((d.mo.size = 0 ∨ (L[l]'h).1 = cm) ∧ (d.da.size = 0 ∨ (L[l]'h).2 = ck))) := Lib.hid (fun hn l h h2 => by
        by_cases e : l = j
        · subst e; exact hn
        · exact HL.out l h (by omega))
      generalize hm : (L[j]'hlt).1 = m at *
      generalize hk : (L[j]'hlt).2 = k at *
      clear hm hk c0 c1 c2
      have HCM2 := Lib.hid (fun w => HCM.out m k w)
      obtain ⟨q0, q1, q2, q3, q4, q5, q6, q7, q8, q9⟩ := hD.dcells
      have e0 := hE.cell 0 _ rfl
      have e1 := hE.cell 1 _ rfl
      have e2 := hE.cell 2 _ rfl
      have HB := Lib.hid hb
      clear hb hD hE HCM
      go_wp2
      go_region_with (go_at_call 62; refine (HCM2.out _).mono ?_; rintro _ w3 ⟨x, hx, rfl, hb⟩; have HX := Lib.hid hx; have HB3 := Lib.hid (bt HB.out (by first | exact hb | exact bt (Below.refl _ _).drew hb | exact bt (Below.refl _ _).drew.drew hb | exact bt (Below.refl _ _).drew.drew.drew hb)); clear hx hb)
      all_goals (go_wp2_with fail)
      all_goals rename_i hx0
      all_goals first
        | (go_ret
           have h0 : x = 0 := by simpa using hx0
           exact ⟨1, .inl ⟨rfl, HPY.out (HX.out.1 h0).2⟩, rfl, bt HD.out.below HB3.out⟩)
        | (have h0 : ¬ x = 0 := by simpa using hx0
           have HN := Lib.hid (HPN.out (fun c => h0 (HX.out.2 ⟨trivial, c⟩)))
           go_roundw
           case rel => exact ⟨j + 1, by omega, by go_num, HN.out, HB3.out⟩
           case measure => simp [intOf]; omega)
    · obtain rfl : j = L.length := by omega
      have HR : Hid (¬ P) := Lib.hid (fun c => by
        obtain ⟨p, hp, h⟩ := HP.out.1 c
        obtain ⟨l, hl, rfl⟩ := List.getElem_of_mem hp
        exact HL.out l hl hl h)
      have HB := Lib.hid hD.below
      clear HL HCL HCM hb hD hE
      go_wp2
      go_ret
      exact ⟨0, .inr ⟨rfl, HR.out⟩, rfl, HB.out⟩

/-- What All returns: fillings alone, and not none. -/
def RetAll (d : Dt) (w : World) (e : Ending) (w' : World) : Prop := ∃ (v : Value) (L : List (Int × Int × Int)), e = .returned v ∧ w'.ownsRow w.heap.size 56 3 v L.length (flat3 L) ∧ (∀ p, p ∈ L → d.Fill p.1 p.2.1 p.2.2) ∧ ((∃ y m k, d.Fill y m k) → L ≠ []) ∧ Below w.heap.size w w'
end Bk
end Go.Proofs.YtipjmaimjchckaaGreatDoor

