/- THE LAW UnitsOf. -/
import Derived.Test.YtipjmaimjchckaaGreatDoorNQ
import Derived.Test.YtipjmaimjchckaaGreatDoorNP
/-! THE LAW UnitsOf. -/
set_option linter.unusedSimpArgs false
set_option linter.unusedVariables false
set_option maxRecDepth 100000
namespace Go.Proofs.YtipjmaimjchckaaGreatDoor
open Go.RowKit Go.Lib
namespace Bk
open Un (ba bt ri rb ret2_ii ret2_bi)

/-- What the four variables hold. -/
structure Lw (ga gb : Nat) (d : Dt) (cy cm ck ul uh lo hi : Int) (w W : World) : Prop where
  dd : Rw w.heap.size (lstD d) w W
  cc : Rw (w.heap.size + 1) (lstC cy cm ck) w W
  aa : Rw ga (lstR ul uh) w W
  bb : Rw gb (lstR lo hi) w W
  na : w.heap.size + 1 < ga
  nb : w.heap.size + 1 < gb
theorem Lw.setC {ga gb : Nat} {d : Dt} {cy cm ck ul uh lo hi : Int} {w W : World} (h : Lw ga gb d cy cm ck ul uh lo hi w W) (k : Nat) (hk : k < 3) (v : Value) {xm xk : Int} (he : (lstC cy cm ck).set k v = lstC cy xm xk) : Lw ga gb d cy xm xk ul uh lo hi w (W.setCell ⟨w.heap.size + 1, k, none⟩ v) :=
  ⟨h.dd.other (by omega) (by omega) k v, by have := h.cc.set k hk v; rw [he] at this; exact this, h.aa.other (by have := h.na; omega) (by omega) k v, h.bb.other (by have := h.nb; omega) (by omega) k v, h.na, h.nb⟩
theorem has_day {d : Dt} {y m k : Int} (h : d.Has y m k) (h0 : d.da.size ≠ 0) : 1 ≤ m ∧ m ≤ 12 := by
  obtain ⟨hc, n, j, ⟨hin, hms, hds, hlen⟩, hm, hk⟩ := h
  rcases form_facts (cerr_form hc) with ⟨_, _, h3⟩ | ⟨h1, h2, _⟩ | ⟨_, _, h3⟩
  · exact absurd h3 h0
  · obtain rfl := hm.resolve_left h2
    rw [Dt.ms_fits h1 h2, mem_fitsL] at hms
    omega
  · exact absurd h3 h0
theorem Lw.later {ga gb : Nat} {d : Dt} {cy cm ck ul uh lo hi : Int} {w W W2 : World} (h : Lw ga gb d cy cm ck ul uh lo hi w W) (hb : Below W.heap.size W W2) : Lw ga gb d cy cm ck ul uh lo hi w W2 :=
  ⟨h.dd.later hb, h.cc.later hb, h.aa.later hb, h.bb.later hb, h.na, h.nb⟩
theorem Lw.S {ga gb : Nat} {d : Dt} {cy cm ck UL UH lo hi : Int} {w w' : World} (h : Lw ga gb d cy cm ck UL UH lo hi w w') : w'.cell? ⟨ga, 0, none⟩ = some (.int .i8 0) ∧ w'.cell? ⟨ga, 1, none⟩ = some (.int .i64 UL) ∧ w'.cell? ⟨ga, 2, none⟩ = some (.int .i8 0) ∧ w'.cell? ⟨ga, 3, none⟩ = some (.int .i64 UH) ∧ w'.cell? ⟨w.heap.size, 0, none⟩ = some (.bool d.neg) ∧ w'.cell? ⟨w.heap.size, 1, none⟩ = some (.bool d.long) ∧ w'.cell? ⟨w.heap.size, 2, none⟩ = some (.string d.dg) ∧ w'.cell? ⟨w.heap.size, 3, none⟩ = some (.int .i64 d.ex) ∧ w'.cell? ⟨w.heap.size, 4, none⟩ = some (.int .i64 d.sig) ∧ w'.cell? ⟨w.heap.size, 5, none⟩ = some (.string d.mo) ∧ w'.cell? ⟨w.heap.size, 6, none⟩ = some (.string d.da) ∧ w'.cell? ⟨w.heap.size, 7, none⟩ = some (.int .u8 d.m0) ∧ w'.cell? ⟨w.heap.size, 8, none⟩ = some (.int .u8 d.m1) ∧ w'.cell? ⟨w.heap.size, 9, none⟩ = some (.int .u8 d.m2) ∧ Lw ga gb d cy cm ck UL UH lo hi w w' := by
  obtain ⟨q0, q1, q2, q3, q4, q5, q6, q7, q8, q9⟩ := h.dd.dcells
  exact ⟨h.aa.cell 0 _ rfl, h.aa.cell 1 _ rfl, h.aa.cell 2 _ rfl, h.aa.cell 3 _ rfl, q0, q1, q2, q3, q4, q5, q6, q7, q8, q9, h⟩
theorem Lw.S2 {ga gb : Nat} {d : Dt} {cy cm ck UL UH lo hi : Int} {w w' : World} (h : Lw ga gb d cy cm ck UL UH lo hi w w') : w'.cell? ⟨gb, 0, none⟩ = some (.int .i8 0) ∧ w'.cell? ⟨gb, 1, none⟩ = some (.int .i64 lo) ∧ w'.cell? ⟨gb, 2, none⟩ = some (.int .i8 0) ∧ w'.cell? ⟨gb, 3, none⟩ = some (.int .i64 hi) ∧ w'.cell? ⟨w.heap.size + 1, 0, none⟩ = some (.int .i64 cy) ∧ w'.cell? ⟨w.heap.size + 1, 1, none⟩ = some (.int .i64 cm) ∧ w'.cell? ⟨w.heap.size + 1, 2, none⟩ = some (.int .i64 ck) ∧ Lw ga gb d cy cm ck UL UH lo hi w w' :=
  ⟨h.bb.cell 0 _ rfl, h.bb.cell 1 _ rfl, h.bb.cell 2 _ rfl, h.bb.cell 3 _ rfl, h.cc.cell 0 _ rfl, h.cc.cell 1 _ rfl, h.cc.cell 2 _ rfl, h⟩
theorem err_pos (d : Dt) : d.err = 0 ∨ 0 < d.err := by
  unfold Dt.err
  split
  · have := Dt.form_vals d; omega
  · split <;> omega

set_option maxHeartbeats 8000000 in
theorem lawOf_any (d : Dt) (cy cm ck : Int) (w : World) (hk : WOk w) (HL : ∀ W, Below w.heap.size w W → Calls Tryz.prog 10 #[] W fun r w' => r = .returned (.bool true) ∧ Below W.heap.size W w')
    (s0 : -9223372036854775808 ≤ d.sig) (s1 : d.sig < 9223372036854775808) (m0 : 0 ≤ d.m0) (m1 : 0 ≤ d.m1) (m2 : 0 ≤ d.m2) (y0 : -9223372036854775808 ≤ cy) (y1 : cy < 9223372036854775808) :
    Calls Tryz.prog 6 #[dtv d, cvv cy cm ck] w fun r w' => r = .returned (.bool true) ∧ Below w.heap.size w w' := by
  have hD : Rw w.heap.size (lstD d) w _ := Rw.fresh (Below.refl _ _) (lstD d) 52
  have hD2 := Rw.fresh hD.below (lstC cy cm ck) 56
  simp only [alloc_size] at hD2
  have hA : _ ∧ _ := ⟨hD.later (ba (Below.refl _ _) (.cells (lstC cy cm ck).toArray 56)), hD2⟩
  clear hD hD2
  have HS := Lib.hid (fun w => short_any d w)
  replace HL := Lib.hid HL
  rw [dtv_eq] at HS
  cases hsh : d.shrt
  case false =>
    rw [hsh] at HS
    unfold dtv cvv
    unfold lstD lstC at hA
    clear hsh hk
    go_enter Tryz.func6, Tryz.ntmps6
    go_upto_region 1 with (fail)
    generalize World.alloc _ _ = W0 at hA ⊢
    have HD : Hid (Rw w.heap.size (lstD d) w W0) := Lib.hid hA.1
    have hR := HD.out.range
    clear hA
    go_wp2_with (first
      | (refine wpList_load_mid rfl 52 (.tmp 2) rfl w.heap.size 0 rfl (lstD d) _ hR Tryz.underlying52 rfl info_date ?_)
      | (go_at_call 26; with_reducible refine (HS.out _).mono ?_; rintro _ w1 ⟨rfl, hb⟩; replace HD := Lib.hid (HD.out.later hb); clear hR hb)
      | (go_at_call 10; refine (HL.out _ HD.out.below).mono ?_; rintro _ w1 ⟨rfl, hb⟩; replace HD := Lib.hid (HD.out.later hb); clear hb))
    go_ret
    exact ⟨rfl, HD.out.below⟩
  rw [hsh] at HS
  have hz : d.dg.size ≤ 40 ∧ d.mo.size ≤ 10 ∧ d.da.size ≤ 10 := by
    unfold Dt.shrt at hsh
    simp at hsh; exact hsh
  obtain ⟨z1, z2, z3⟩ := hz
  have HO := Lib.hid (fun W hb => uOf_any d W (hk.below (w' := W) hb) (by omega) (by omega) (by omega) m0 m1 m2)
  have HP := Lib.hid (fun W hb => uPrec_any d W (hk.below (w' := W) hb) (by omega) (by omega) m0 m1 m2)
  have HF := Lib.hid (fun W hb => uFilled_any d cy cm ck W (hk.below (w' := W) hb) (by omega) (by omega) m0 m1 m2 y0 y1)
  have HC := Lib.hid (fun W => r16Check_any d W (by omega) s0 s1 m0 m1 m2)
  have HM := Lib.hid (fun W => rMaskedD_any d W (by omega) (by omega) (by omega))
  have HH := Lib.hid (fun W => r16Has_any d cy cm ck W (by omega) s0 s1 m0 m1 m2 y0 y1)
  have HPR := Lib.hid (fun W hf => rPrec_any d W hf)
  have HOF := Lib.hid (fun W c h => rOf_any d W c h)
  have HUN := Lib.hid (fun y m k W h1 h2 h3 h4 => rUnit_any y m k W h1 h2 h3 h4)
  rw [dtv_eq] at HO HP HF HC HM HH HPR HOF
  unfold cvv at HF HH
  unfold rv at HO HOF HUN
  unfold dtv cvv
  unfold lstD lstC at hA
  clear hsh hk z1 z2 z3 m0 m1 m2
  obtain ⟨P, hP⟩ : ∃ P, P = (if d.err = 0 then d.prec else 0) := ⟨_, rfl⟩
  rw [← hP] at HP
  replace hP := Lib.hid hP
  go_enter Tryz.func6, Tryz.ntmps6
  go_upto_region 1 with (fail)
  generalize World.alloc _ _ = W0 at hA ⊢
  have HD : Hid (Rw w.heap.size (lstD d) w W0) := Lib.hid hA.1
  have HE : Hid (Rw (w.heap.size + 1) (lstC cy cm ck) w W0) := Lib.hid hA.2
  have hR := HD.out.range
  clear hA
  go_upto_region 3 with (first
    | (refine wpList_load_mid rfl 52 (.tmp 2) rfl w.heap.size 0 rfl (lstD d) _ hR Tryz.underlying52 rfl info_date ?_)
    | (go_at_call 26; with_reducible refine (HS.out _).mono ?_; rintro _ w1 ⟨rfl, hb⟩; replace HD := Lib.hid (HD.out.later hb); replace HE := Lib.hid (HE.out.later hb); clear hR hb; have hR := HD.out.range))
  go_cut [5, 6] (fun s5 s6 wx => ∃ ga, s5 = .pointer (some ⟨ga, 0, none⟩) ∧ s6 = .int .i64 d.uE ∧ w.heap.size + 1 < ga ∧ Rw ga (lstR d.uLo d.uHi) w wx ∧ Rw w.heap.size (lstD d) w wx ∧ Rw (w.heap.size + 1) (lstC cy cm ck) w wx)
  case first =>
    go_wp2_with (first
      | (refine wpList_load_mid rfl 52 (.tmp 2) rfl w.heap.size 0 rfl (lstD d) _ hR Tryz.underlying52 rfl info_date ?_)
      | (go_at_call 23; refine (HO.out _ HD.out.below).mono ?_; rintro _ w2 ⟨rfl, hb⟩))
    go_meet
    have hb2 := ba (Below.refl w2.heap.size w2) (.cells (lstR d.uLo d.uHi).toArray 26)
    exact ⟨_, rfl, rfl, (HE.out.later hb).lt, Rw.fresh (bt HD.out.below hb) (lstR d.uLo d.uHi) 26, (HD.out.later hb).later hb2, (HE.out.later hb).later hb2⟩
  case rest =>
  obtain ⟨ga, rfl, rfl, na, hA, hD, hE⟩ := hcut
  clear HD HE hR HS
  have hR := hD.range
  go_upto_region 4 with (fail)
  go_cut [7, 8] (fun s7 s8 wx => s7 = .int .u8 P ∧ s8 = .int .i64 d.err ∧ Rw ga (lstR d.uLo d.uHi) w wx ∧ Rw w.heap.size (lstD d) w wx ∧ Rw (w.heap.size + 1) (lstC cy cm ck) w wx)
  case first =>
    go_wp2_with (first
      | (refine wpList_load_mid rfl 52 (.tmp 2) rfl w.heap.size 0 rfl (lstD d) _ hR Tryz.underlying52 rfl info_date ?_)
      | (go_at_call 27; refine (HP.out _ hD.below).mono ?_; rintro _ w2 ⟨rfl, hb⟩))
    go_meet
    exact ⟨rfl, rfl, hA.later hb, hD.later hb, hE.later hb⟩
  case rest =>
  obtain ⟨rfl, rfl, hA, hD, hE⟩ := hcut
  clear hR
  have hR := hD.range
  go_upto_region 5 with (fail)
  go_cut [9, 10] (fun s9 s10 wx => ∃ gb lo hi er, s9 = .pointer (some ⟨gb, 0, none⟩) ∧ s10 = .int .i64 er ∧ d.FillR cy cm ck lo hi er ∧ Lw ga gb d cy cm ck d.uLo d.uHi lo hi w wx)
  case first =>
    go_wp2_with (first
      | (refine wpList_load_mid rfl 52 (.tmp 2) rfl w.heap.size 0 rfl (lstD d) _ hR Tryz.underlying52 rfl info_date ?_)
      | (refine wpList_load_mid rfl 56 (.tmp 3) rfl (w.heap.size + 1) 0 rfl (lstC cy cm ck) _ hE.range Tryz.underlying56 rfl info_civil ?_)
      | (go_at_call 28; refine (HF.out _ hD.below).mono ?_; rintro _ w2 ⟨lo, hi, er, hfr, rfl, hb⟩; have HFR := Lib.hid hfr; clear hfr; unfold rv))
    go_meet
    have hb2 := ba (Below.refl w2.heap.size w2) (.cells (lstR lo hi).toArray 26)
    exact ⟨_, _, _, _, rfl, rfl, HFR.out, (hD.later hb).later hb2, (hE.later hb).later hb2, (hA.later hb).later hb2, Rw.fresh (bt hD.below hb) (lstR lo hi) 26, na, (hE.later hb).lt⟩
  case rest =>
  obtain ⟨gb, lo, hi, er, rfl, rfl, hfr, hW⟩ := hcut
  have HFR := Lib.hid hfr
  clear hR hfr hA hD hE HO HP HF
  have hR := hW.dd.range
  go_upto_region 6 with (fail)
  go_cut [11] (fun s11 wx => s11 = .int .i64 d.err ∧ Lw ga gb d cy cm ck d.uLo d.uHi lo hi w wx)
  case first =>
    go_wp2_with (first
      | (refine wpList_load_mid rfl 52 (.tmp 2) rfl w.heap.size 0 rfl (lstD d) _ hR Tryz.underlying52 rfl info_date ?_)
      | (go_at_call 29; refine (HC.out _).mono ?_; rintro _ w2 ⟨rfl, hb⟩))
    go_meet
    exact ⟨rfl, hW.later hb⟩
  case rest =>
  obtain ⟨rfl, hW⟩ := hcut
  clear hR HC
  by_cases c : d.err = 0
  case neg =>
    have hp := (err_pos d).resolve_left c
    have eU : d.uE = d.err := by unfold Dt.uE; rw [if_pos c]
    have eP : P = 0 := by rw [hP.out, if_neg c]
    have eL : d.uLo = 0 := by unfold Dt.uLo; rw [eU, if_pos c]
    have eH : d.uHi = 0 := by unfold Dt.uHi; rw [eU, if_pos c]
    obtain ⟨f1, f2, f3⟩ : er = d.err ∧ lo = 0 ∧ hi = 0 := by
      rcases HFR.out with ⟨_, h⟩ | ⟨h, _⟩ | ⟨h, _⟩
      · exact h
      · exact absurd h c
      · exact absurd h c
    rw [eL, eH, f2, f3] at hW
    rw [eU, eP, f1]
    clear eU eP eL eH f1 f2 f3 hP HFR HM HH HPR HOF HUN c
    generalize d.err = E at *
    obtain ⟨q0, q1, q2, q3, q4, q5, q6, q7, q8, q9⟩ := hW.dd.dcells
    have e0 := hW.cc.cell 0 _ rfl
    have e1 := hW.cc.cell 1 _ rfl
    have e2 := hW.cc.cell 2 _ rfl
    have a0 := hW.aa.cell 0 _ rfl
    have a1 := hW.aa.cell 1 _ rfl
    have a2 := hW.aa.cell 2 _ rfl
    have a3 := hW.aa.cell 3 _ rfl
    have b0 := hW.bb.cell 0 _ rfl
    have b1 := hW.bb.cell 1 _ rfl
    have b2 := hW.bb.cell 2 _ rfl
    have b3 := hW.bb.cell 3 _ rfl
    as_aux_lemma =>
      go_wp2_with (go_at_call 10; refine (HL.out _ (by first | exact hW.dd.below | exact hW.dd.below.drew | exact hW.dd.below.drew.drew)).mono ?_; rintro _ w9 ⟨rfl, hb⟩; replace hW := hW.later (by first | exact hb | exact bt (Below.refl _ _).drew hb | exact bt (Below.refl _ _).drew.drew hb | exact bt (Below.refl _ _).drew.drew.drew hb); clear hb)
      go_ret
      exact ⟨rfl, hW.dd.below⟩
  have hf := err_zero c
  have eP : P = d.prec := by rw [hP.out, if_pos c]
  have HPR2 := Lib.hid (fun W => HPR.out W hf)
  have HOF2 := Lib.hid (fun h W => HOF.out W c h)
  have pb : d.prec = 0 ∨ d.prec = 1 ∨ d.prec = 2 ∨ d.prec = 3 := by unfold Dt.prec; (repeat' split) <;> omega
  have HEU : Hid (d.uE = if d.msk = true then 1 else 0) := Lib.hid (by unfold Dt.uE; rw [if_neg (by simpa using c)])
  have HUZ : Hid (d.msk = true → d.uLo = 0 ∧ d.uHi = 0) := Lib.hid (fun h => by
    have e : d.uE ≠ 0 := by rw [HEU.out, if_pos h]; omega
    unfold Dt.uLo Dt.uHi; rw [if_pos e, if_pos e]; exact ⟨rfl, rfl⟩)
  have HCC := Lib.hid c
  obtain ⟨M, hM0⟩ : ∃ M, M = d.msk := ⟨_, rfl⟩
  have HMK := Lib.hid hM0
  clear hf HPR HOF hM0
  rw [c, eP]
  clear eP hP c
  go_upto_region 9 with (fail)
  go_cut [74] (fun s74 wx => s74 = .bool false ∧ Lw ga gb d cy cm ck d.uLo d.uHi lo hi w wx)
  case first =>
    obtain ⟨q0, q1, q2, q3, q4, q5, q6, q7, q8, q9⟩ := hW.dd.dcells
    have hR := hW.dd.range
    clear HM HH HOF2 HUN HEU HUZ HFR HCC HL
    generalize d.prec = pr at *
    generalize d.uE = ue at *
    rcases pb with rfl | rfl | rfl | rfl
    all_goals (go_wp2_with (first
      | (refine wpList_load_mid rfl 52 (.tmp 2) rfl w.heap.size 0 rfl (lstD d) _ hR Tryz.underlying52 rfl info_date ?_)
      | (go_at_call 30; refine (HPR2.out _).mono ?_; rintro _ w2 ⟨rfl, hb⟩; replace hW := hW.later (by first | exact hb | exact bt (Below.refl _ _).drew hb | exact bt (Below.refl _ _).drew.drew hb | exact bt (Below.refl _ _).drew.drew.drew hb); clear hb)))
    all_goals go_meet
    all_goals exact ⟨rfl, hW⟩
  case rest =>
  obtain ⟨rfl, hW⟩ := hcut
  clear HPR2 pb
  generalize d.prec = pr at *
  have hR := hW.dd.range
  go_upto_region 11 with (fail)
  go_cut [77] (fun s77 wx => s77 = .bool M ∧ Lw ga gb d cy cm ck d.uLo d.uHi lo hi w wx)
  case first =>
    clear HH HOF2 HUN HUZ HFR HCC HL HEU
    generalize d.uE = ue at *
    cases hmk : d.msk
    · rw [hmk, if_neg (by decide)] at HM
      go_wp2_with (first
        | (refine wpList_load_mid rfl 52 (.tmp 2) rfl w.heap.size 0 rfl (lstD d) _ hR Tryz.underlying52 rfl info_date ?_)
        | (go_at_call 31; refine (HM.out _).mono ?_; rintro _ w2 ⟨rfl, hb⟩; replace hW := hW.later hb; clear hb))
      go_meet
      exact ⟨by rw [HMK.out, hmk], hW⟩
    · rw [hmk, if_pos rfl] at HM
      go_wp2_with (first
        | (refine wpList_load_mid rfl 52 (.tmp 2) rfl w.heap.size 0 rfl (lstD d) _ hR Tryz.underlying52 rfl info_date ?_)
        | (go_at_call 31; refine (HM.out _).mono ?_; rintro _ w2 ⟨rfl, hb⟩; replace hW := hW.later hb; clear hb))
      go_meet
      exact ⟨by rw [HMK.out, hmk], hW⟩
  case rest =>
  obtain ⟨rfl, hW⟩ := hcut
  clear hR HM
  generalize d.uE = ue at *
  generalize d.uLo = UL at *
  generalize d.uHi = UH at *
  go_upto_if 77 with (fail)
  go_cut [] (fun wx => Lw ga gb d cy cm ck UL UH lo hi w wx)
  case first =>
    clear HH HUN HFR HCC HL
    have HE2 := HEU.out
    cases M
    · have hmk := HMK.out.symm
      rw [hmk, if_neg (by decide)] at HE2
      have HOF3 := Lib.hid (fun W => HOF2.out hmk W)
      subst HE2
      clear HEU HUZ HOF2 HMK hmk
      obtain ⟨a0, a1, a2, a3, q0, q1, q2, q3, q4, q5, q6, q7, q8, q9, _⟩ := hW.S
      have hE := Lib.hid (hW.later (Below.refl _ _).drew)
      clear hW
      go_wp2_with fail
      go_region_held3 (fun w' => w'.cell? ⟨ga, 0, none⟩ = some (.int .i8 0) ∧ w'.cell? ⟨ga, 1, none⟩ = some (.int .i64 UL) ∧ w'.cell? ⟨ga, 2, none⟩ = some (.int .i8 0) ∧ w'.cell? ⟨ga, 3, none⟩ = some (.int .i64 UH) ∧ w'.cell? ⟨w.heap.size, 0, none⟩ = some (.bool d.neg) ∧ w'.cell? ⟨w.heap.size, 1, none⟩ = some (.bool d.long) ∧ w'.cell? ⟨w.heap.size, 2, none⟩ = some (.string d.dg) ∧ w'.cell? ⟨w.heap.size, 3, none⟩ = some (.int .i64 d.ex) ∧ w'.cell? ⟨w.heap.size, 4, none⟩ = some (.int .i64 d.sig) ∧ w'.cell? ⟨w.heap.size, 5, none⟩ = some (.string d.mo) ∧ w'.cell? ⟨w.heap.size, 6, none⟩ = some (.string d.da) ∧ w'.cell? ⟨w.heap.size, 7, none⟩ = some (.int .u8 d.m0) ∧ w'.cell? ⟨w.heap.size, 8, none⟩ = some (.int .u8 d.m1) ∧ w'.cell? ⟨w.heap.size, 9, none⟩ = some (.int .u8 d.m2) ∧ Lw ga gb d cy cm ck UL UH lo hi w w') (first | exact hE.out.S | exact (hE.out.later hb2).S | (have hk := ‹_ ∧ _ ∧ _ ∧ _ ∧ _ ∧ _ ∧ _ ∧ _ ∧ _ ∧ _ ∧ _ ∧ _ ∧ _ ∧ _ ∧ Lw _ _ _ _ _ _ _ _ _ _ _ _›; exact (hk.2.2.2.2.2.2.2.2.2.2.2.2.2.2.later hb2).S) | (have hk := ‹_ ∧ _ ∧ _ ∧ _ ∧ _ ∧ _ ∧ _ ∧ _ ∧ _ ∧ _ ∧ _ ∧ _ ∧ _ ∧ _ ∧ Lw _ _ _ _ _ _ _ _ _ _ _ _›; exact (hk.2.2.2.2.2.2.2.2.2.2.2.2.2.2.later (Below.refl _ _).drew).S) | assumption) ((first | (go_at_call 32; refine (HOF3.out _).mono ?_; rintro _ w6 ⟨rfl, hb2⟩)))
      rename_i hk
      have hF := Lib.hid hk.2.2.2.2.2.2.2.2.2.2.2.2.2.2
      clear hk
      go_wp2_with fail
      go_meet
      exact hF.out
    · have hmk := HMK.out.symm
      rw [hmk, if_pos rfl] at HE2
      obtain ⟨z1, z2⟩ := HUZ.out hmk
      subst HE2 z1 z2
      clear HEU HUZ HOF2 HMK hmk
      have a0 := hW.aa.cell 0 _ rfl
      have a1 := hW.aa.cell 1 _ rfl
      have a2 := hW.aa.cell 2 _ rfl
      have a3 := hW.aa.cell 3 _ rfl
      go_wp2
      go_meet
      exact hW
  case rest =>
  have hW := hcut
  clear HEU HUZ HOF2 HMK
  have q4 := hW.dd.dcells.2.2.2.2.1
  go_upto_region 16 with (fail)
  go_cut [102] (fun s102 wx => ∃ b : Bool, s102 = .bool b ∧ (b = true ↔ ¬ (d.sig ≤ 0 ∧ d.Has cy cm ck)) ∧ Lw ga gb d cy cm ck UL UH lo hi w wx)
  case first =>
    clear HUN HFR HCC HL
    by_cases hg : d.sig ≤ 0
    · have hg1 : ¬ 0 < d.sig := by omega
      obtain ⟨q0, q1, q2, q3, -, q5, q6, q7, q8, q9⟩ := hW.dd.dcells
      have e0 := hW.cc.cell 0 _ rfl
      have e1 := hW.cc.cell 1 _ rfl
      have e2 := hW.cc.cell 2 _ rfl
      have hR := hW.dd.range
      have hRc := hW.cc.range
      by_cases hh : d.Has cy cm ck
      · have HH2 : Hid (∀ W, Calls Tryz.prog 33 #[.agg (lstD d).toArray, .agg #[.int .i64 cy, .int .i64 cm, .int .i64 ck]] W fun r w' => r = .returned (.int .i64 1) ∧ Below W.heap.size W w') := Lib.hid (fun W => by
          refine (HH.out W).mono ?_; rintro e w' ⟨x, hx, rfl, hb⟩
          rcases hx with ⟨rfl, _⟩ | ⟨_, h⟩
          · exact ⟨rfl, hb⟩
          · exact absurd hh h)
        have HQ : Hid (¬ ¬ (d.sig ≤ 0 ∧ d.Has cy cm ck)) := Lib.hid (fun h => h ⟨hg, hh⟩)
        clear HH hh
        go_wp2_with (first
          | (refine wpList_load_mid rfl 52 (.tmp 2) rfl w.heap.size 0 rfl (lstD d) _ hR Tryz.underlying52 rfl info_date ?_)
          | (refine wpList_load_mid rfl 56 (.tmp 3) rfl (w.heap.size + 1) 0 rfl (lstC cy cm ck) _ hRc Tryz.underlying56 rfl info_civil ?_)
          | (go_at_call 33; refine (HH2.out _).mono ?_; rintro _ w2 ⟨rfl, hb⟩; replace hW := hW.later hb; clear hb))
        all_goals go_meet
        all_goals exact ⟨false, rfl, ⟨(fun h => by cases h), fun h => absurd h HQ.out⟩, hW⟩
      · have HH2 : Hid (∀ W, Calls Tryz.prog 33 #[.agg (lstD d).toArray, .agg #[.int .i64 cy, .int .i64 cm, .int .i64 ck]] W fun r w' => r = .returned (.int .i64 0) ∧ Below W.heap.size W w') := Lib.hid (fun W => by
          refine (HH.out W).mono ?_; rintro e w' ⟨x, hx, rfl, hb⟩
          rcases hx with ⟨_, h⟩ | ⟨rfl, _⟩
          · exact absurd h hh
          · exact ⟨rfl, hb⟩)
        have HQ : Hid (¬ (d.sig ≤ 0 ∧ d.Has cy cm ck)) := Lib.hid (fun h => hh h.2)
        clear HH hh
        go_wp2_with (first
          | (refine wpList_load_mid rfl 52 (.tmp 2) rfl w.heap.size 0 rfl (lstD d) _ hR Tryz.underlying52 rfl info_date ?_)
          | (refine wpList_load_mid rfl 56 (.tmp 3) rfl (w.heap.size + 1) 0 rfl (lstC cy cm ck) _ hRc Tryz.underlying56 rfl info_civil ?_)
          | (go_at_call 33; refine (HH2.out _).mono ?_; rintro _ w2 ⟨rfl, hb⟩; replace hW := hW.later hb; clear hb))
        all_goals go_meet
        all_goals exact ⟨true, rfl, ⟨fun _ => HQ.out, fun _ => rfl⟩, hW⟩
    · have HQ : Hid (¬ (d.sig ≤ 0 ∧ d.Has cy cm ck)) := Lib.hid (fun h => hg h.1)
      have hg1 : 0 < d.sig := by omega
      clear HH hg
      go_wp2
      go_meet
      exact ⟨true, rfl, ⟨fun _ => HQ.out, fun _ => rfl⟩, hW⟩
  case rest =>
  obtain ⟨b, rfl, hbb, hW⟩ := hcut
  clear q4 HH
  cases b
  case true =>
    obtain ⟨f1, f2, f3⟩ : er = 1 ∧ lo = 0 ∧ hi = 0 := by
      rcases HFR.out with ⟨h, _⟩ | ⟨_, _, h⟩ | ⟨_, h1, h2, _⟩
      · exact absurd HCC.out h
      · exact h
      · exact absurd ⟨h1, h2⟩ (hbb.1 rfl)
    rw [f1]
    rw [f2, f3] at hW
    clear f1 f2 f3 HFR HCC hbb HUN
    have b0 := hW.bb.cell 0 _ rfl
    have b1 := hW.bb.cell 1 _ rfl
    have b2 := hW.bb.cell 2 _ rfl
    have b3 := hW.bb.cell 3 _ rfl
    as_aux_lemma =>
      go_wp2_with (go_at_call 10; refine (HL.out _ (by first | exact hW.dd.below | exact hW.dd.below.drew | exact hW.dd.below.drew.drew)).mono ?_; rintro _ w9 ⟨rfl, hb⟩; replace hW := hW.later (by first | exact hb | exact bt (Below.refl _ _).drew hb | exact bt (Below.refl _ _).drew.drew hb | exact bt (Below.refl _ _).drew.drew.drew hb); clear hb)
      go_ret
      exact ⟨rfl, hW.dd.below⟩
  case false =>
  obtain ⟨hs0, hh⟩ : d.sig ≤ 0 ∧ d.Has cy cm ck := by
    by_cases h : d.sig ≤ 0 ∧ d.Has cy cm ck
    · exact h
    · exact absurd (hbb.2 h) (by decide)
  obtain ⟨f1, f2, f3⟩ : er = 0 ∧ lo = unitLo cy (d.mOf cm) (d.kOf ck) ∧ hi = unitHi cy (d.mOf cm) (d.kOf ck) := by
    rcases HFR.out with ⟨h, _⟩ | ⟨_, h, _⟩ | ⟨_, _, _, h⟩
    · exact absurd HCC.out h
    · exact absurd ⟨hs0, hh⟩ h
    · exact h
  obtain ⟨v1, v2, v3, v4, v5⟩ := has_ok hh
  have HUN2 := Lib.hid (fun W => HUN.out cy (d.mOf cm) (d.kOf ck) W v1 v2 (by
    unfold Dt.mOf; split
    · exact .inl rfl
    · rename_i h; rcases v3 h with h | h
      · exact .inr (.inl h)
      · exact .inr (.inr ⟨h.1, h.2.1⟩)) (by
    unfold Dt.kOf Dt.mOf; split
    · exact .inl rfl
    · rename_i h
      have hm : d.mo.size ≠ 0 := fun e => h (v5 e)
      have k1 := v4 h
      rw [if_neg hm]
      refine .inr ?_
      have hsn := has_day hh h
      omega))
  rw [f1]
  rw [← f2, ← f3] at HUN2
  clear f1 f2 f3 HFR HCC hbb HUN v1 v2 v3 v4 v5 hs0 hh
  obtain ⟨xm, hxm⟩ : ∃ x, x = d.mOf cm := ⟨_, rfl⟩
  obtain ⟨xk, hxk⟩ : ∃ x, x = d.kOf ck := ⟨_, rfl⟩
  rw [← hxm, ← hxk] at HUN2
  have Hxm := Lib.hid hxm
  have Hxk := Lib.hid hxk
  clear hxm hxk
  obtain ⟨bm, hbm⟩ : ∃ z, d.mo.toList.isEmpty = z := ⟨_, rfl⟩
  have HBm : Hid ((bm = true ∧ d.mo.size = 0) ∨ (bm = false ∧ ¬ d.mo.size = 0)) := Lib.hid (by
    rcases emp_cases d.mo with ⟨c, e1⟩ | ⟨c, e1⟩
    · exact .inl ⟨hbm.symm.trans e1, c⟩
    · exact .inr ⟨hbm.symm.trans e1, c⟩)
  have q5 := hW.dd.dcells.2.2.2.2.2.1
  go_upto_if 115 with (fail)
  clear hbm q5
  go_cut [] (fun wx => Lw ga gb d cy xm ck UL UH lo hi w wx)
  case first =>
    have e1 := hW.cc.cell 1 _ rfl
    have z1 := hW.cc.free 1 (by unfold lstC; simp)
    clear HUN2 HL
    rcases HBm.out with ⟨rfl, c0⟩ | ⟨rfl, c0⟩
    · have em : xm = 0 := by rw [Hxm.out]; unfold Dt.mOf; rw [if_pos c0]
      have hX : Lw ga gb d cy 0 ck UL UH lo hi w (wc.setCell ⟨w.heap.size + 1, 1, none⟩ (.int .i64 0)) := hW.setC 1 (by omega) _ rfl
      rw [← em] at hX
      have HX := Lib.hid hX
      rw [em] at HX
      clear c0 hX hW HBm
      go_wp2
      go_meet
      rw [em]
      exact HX.out
    · have em : xm = cm := by rw [Hxm.out]; unfold Dt.mOf; rw [if_neg c0]
      clear c0 HBm
      go_wp2
      go_meet
      rw [em]
      exact hW
  case rest =>
  have hW := hcut
  clear HBm
  obtain ⟨bk, hbk⟩ : ∃ z, d.da.toList.isEmpty = z := ⟨_, rfl⟩
  have HBk : Hid ((bk = true ∧ d.da.size = 0) ∨ (bk = false ∧ ¬ d.da.size = 0)) := Lib.hid (by
    rcases emp_cases d.da with ⟨c, e1⟩ | ⟨c, e1⟩
    · exact .inl ⟨hbk.symm.trans e1, c⟩
    · exact .inr ⟨hbk.symm.trans e1, c⟩)
  have q6 := hW.dd.dcells.2.2.2.2.2.2.1
  go_upto_if 119 with (fail)
  clear hbk q6
  go_cut [] (fun wx => Lw ga gb d cy xm xk UL UH lo hi w wx)
  case first =>
    have e2 := hW.cc.cell 2 _ rfl
    have z2 := hW.cc.free 2 (by unfold lstC; simp)
    clear HUN2 HL
    rcases HBk.out with ⟨rfl, c0⟩ | ⟨rfl, c0⟩
    · have em : xk = 0 := by rw [Hxk.out]; unfold Dt.kOf; rw [if_pos c0]
      have hX : Lw ga gb d cy xm 0 UL UH lo hi w (wc.setCell ⟨w.heap.size + 1, 2, none⟩ (.int .i64 0)) := hW.setC 2 (by omega) _ rfl
      rw [← em] at hX
      have HX := Lib.hid hX
      rw [em] at HX
      clear c0 hX hW HBk
      go_wp2
      go_meet
      rw [em]
      exact HX.out
    · have em : xk = ck := by rw [Hxk.out]; unfold Dt.kOf; rw [if_neg c0]
      clear c0 HBk
      go_wp2
      go_meet
      rw [em]
      exact hW
  case rest =>
  have hW := hcut
  clear HBk
  clear Hxm Hxk
  have hE := Lib.hid (hW.later (Below.refl _ _).drew)
  obtain ⟨b0, b1, b2, b3, e0, e1, e2, _⟩ := hW.S2
  clear hW
  as_aux_lemma =>
    go_wp2_with fail
    go_region_held3 (fun w' => w'.cell? ⟨gb, 0, none⟩ = some (.int .i8 0) ∧ w'.cell? ⟨gb, 1, none⟩ = some (.int .i64 lo) ∧ w'.cell? ⟨gb, 2, none⟩ = some (.int .i8 0) ∧ w'.cell? ⟨gb, 3, none⟩ = some (.int .i64 hi) ∧ w'.cell? ⟨w.heap.size + 1, 0, none⟩ = some (.int .i64 cy) ∧ w'.cell? ⟨w.heap.size + 1, 1, none⟩ = some (.int .i64 xm) ∧ w'.cell? ⟨w.heap.size + 1, 2, none⟩ = some (.int .i64 xk) ∧ Lw ga gb d cy xm xk UL UH lo hi w w') (first | exact hE.out.S2 | exact (hE.out.later hb2).S2 | (have hk := ‹_ ∧ _ ∧ _ ∧ _ ∧ _ ∧ _ ∧ _ ∧ Lw _ _ _ _ _ _ _ _ _ _ _ _›; exact (hk.2.2.2.2.2.2.2.later hb2).S2) | (have hk := ‹_ ∧ _ ∧ _ ∧ _ ∧ _ ∧ _ ∧ _ ∧ Lw _ _ _ _ _ _ _ _ _ _ _ _›; exact (hk.2.2.2.2.2.2.2.later (Below.refl _ _).drew).S2) | assumption) ((first | (go_at_call 21; refine (HUN2.out _).mono ?_; rintro _ w6 ⟨rfl, hb2⟩) | (go_at_call 10; refine (HL.out _ (by first | exact hE.out.dd.below | (have hk := ‹_ ∧ _ ∧ _ ∧ _ ∧ _ ∧ _ ∧ _ ∧ Lw _ _ _ _ _ _ _ _ _ _ _ _›; first | exact hk.2.2.2.2.2.2.2.dd.below | exact hk.2.2.2.2.2.2.2.dd.below.drew))).mono ?_; rintro _ w7 ⟨rfl, hb2⟩)))
    rename_i hk
    have hF := Lib.hid hk.2.2.2.2.2.2.2
    clear hk
    go_wp2_with fail
    go_ret
    exact ⟨rfl, hF.out.dd.below⟩
end Bk
end Go.Proofs.YtipjmaimjchckaaGreatDoor

