/- THE WALKS of circaref23.Of and circalaw23.short. -/
import Derived.Test.YtipjmaimjchckaaGreatDoorNN
import Derived.Test.YtipjmaimjchckaaGreatDoorNP
/-! THE WALKS of circaref23.Of and circalaw23.short. -/
set_option linter.unusedSimpArgs false
set_option linter.unusedVariables false
set_option maxRecDepth 100000
namespace Go.Proofs.YtipjmaimjchckaaGreatDoor
open Go.RowKit Go.Lib
namespace Bk
open Un (ba bt ri rb ret2_ii ret2_bi)

set_option maxHeartbeats 4000000 in
theorem rOf_any (d : Dt) (w : World) (c : d.err = 0) (hmk : d.msk = false) :
    Calls Tryz.prog 32 #[dtv d] w fun r w' => r = .returned (rv d.uLo d.uHi) ∧ Below w.heap.size w w' := by
  have hD : Rw w.heap.size (lstD d) w _ := Rw.fresh (Below.refl _ _) (lstD d) 52
  have hD2 := Rw.fresh hD.below (lstR 0 0) 26
  simp only [alloc_size] at hD2
  have hA : _ ∧ _ := ⟨hD.later (ba (Below.refl _ _) (.cells (lstR 0 0).toArray 26)), hD2⟩
  clear hD hD2
  obtain ⟨LO, hLO⟩ : ∃ x, x = d.uLo := ⟨_, rfl⟩
  obtain ⟨HI, hHI⟩ : ∃ x, x = d.uHi := ⟨_, rfl⟩
  rw [← hLO, ← hHI]
  have hE : d.uE = 0 := by unfold Dt.uE; rw [if_neg (by simpa using c), hmk]; rfl
  unfold Dt.uLo at hLO
  unfold Dt.uHi at hHI
  rw [hE, if_neg (by decide)] at hLO hHI
  have hfm := err_zero c
  obtain ⟨hx, hxm, hxd, hsg⟩ := msk_facts hmk
  obtain ⟨hyk, _, hfar⟩ := Dt.yearOk_facts (Dt.form_zero hfm).1
  obtain ⟨n1, n2, n3, n4⟩ := mo_num hfm hxm
  obtain ⟨k1, k2, k3, k4⟩ := da_num hfm hxd
  have hyb := yVal_bd (neg := d.neg) hyk hx
  have hV : ∀ w, Calls Tryz.prog 58 #[yv d.neg d.long d.dg d.ex d.sig] w fun r w' => r = .returned (.int .i64 (yVal d.neg d.dg d.ex)) ∧ Below w.heap.size w w' := fun w => by
    obtain ⟨e, he, hle, hd, hl, hs⟩ : ∃ e : Nat, d.ex = e ∧ e ≤ 16 ∧ allB isDig d.dg = true ∧ magV d.dg d.ex ≤ 10000000000000000 ∧ d.dg.size ≤ 17 := by
      have hk' : yOk d.neg d.long d.dg d.ex d.sig = true := hyk
      cases hl : d.long
      · rw [hl] at hk'
        obtain ⟨a1, a2, a3, a4, a5, a6, a7⟩ := yOk_short hk'
        have hd := (dig_iff a2).1 hx
        refine ⟨0, a3, by omega, hd, ?_, by omega⟩
        unfold magV; rw [a3]
        have := decS_lt4 hd a1
        have e : p10 (Int.toNat 0) = 1 := rfl
        rw [e]; omega
      · rw [hl] at hk'
        obtain ⟨a1, a2, a3, a4, a5, a6, a7, a8, a9⟩ := yOk_long hk'
        exact ⟨d.ex.toNat, by omega, by omega, a3, a7, a2⟩
    rw [he] at hl ⊢
    exact rValue_any d.neg d.long d.dg e d.sig w hs hd hle hl
  have HV := Lib.hid hV
  have HN1 := Lib.hid (fun W => rNumber_any d.mo W n1 n2)
  have HN2 := Lib.hid (fun W => rNumber_any d.da W k1 k2)
  have HU := Lib.hid (fun W => rUnit_any (yVal d.neg d.dg d.ex) (decS d.mo) (decS d.da) W hyb.1 hyb.2 (by
    by_cases h : d.mo.size = 0
    · exact .inl (dec_empty h).1
    · rcases n4 h with h | h
      · exact .inr (.inl ⟨h.1, h.2.1⟩)
      · exact .inr (.inr ⟨h.1, h.2.1⟩)) (by
    by_cases h : d.da.size = 0
    · exact .inl (dec_empty h).1
    · have hm : d.mo.size ≠ 0 := fun e => h (fmd hfm e)
      have hs0 : d.season = 0 := by
        rcases form_facts hfm with ⟨_, _, h3⟩ | ⟨h1, _⟩ | ⟨h1, _⟩
        · exact absurd h3 h
        · exact h1
        · exact h1
      have := k4 h
      rcases n4 hm with h | h
      · exact .inr ⟨h.1, h.2.1, this.1, this.2⟩
      · omega))
  rw [← hLO, ← hHI] at HU
  unfold rv at HU
  unfold yv at HV
  unfold dtv
  unfold lstD lstR at hA
  clear hmk c hE hfm hx hxm hxd hsg hyk hfar n1 n2 n3 n4 k1 k2 k3 k4 hyb hLO hHI hV
  generalize yVal d.neg d.dg d.ex = yv at *
  generalize decS d.mo = mv at *
  generalize decS d.da = kv at *
  go_enter Tryz.func32, Tryz.ntmps32
  go_upto_region 1 with (fail)
  generalize World.alloc _ _ = W0 at hA ⊢
  have HD : Hid (Rw w.heap.size (lstD d) w W0) := Lib.hid hA.1
  have HF : Hid (Rw (w.heap.size + 1) (lstR 0 0) w W0) := Lib.hid hA.2
  clear hA
  obtain ⟨r0, r1, r2, r3, r4, r5, r6, r7, r8, r9⟩ := HD.out.dcells
  go_region_with (first
    | (go_at_call 58; with_reducible refine (HV.out _).mono ?_; rintro _ w' ⟨rfl, hb⟩; replace HD := Lib.hid (HD.out.later (by first | exact hb | exact bt (Below.refl _ _).drew hb | exact bt (Below.refl _ _).drew.drew hb | exact bt (Below.refl _ _).drew.drew.drew hb)); replace HF := Lib.hid (HF.out.later (by first | exact hb | exact bt (Below.refl _ _).drew hb | exact bt (Below.refl _ _).drew.drew hb | exact bt (Below.refl _ _).drew.drew.drew hb)); clear hb; clear r0 r1 r2 r3 r4 r5 r6 r7 r8 r9; obtain ⟨r0, r1, r2, r3, r4, r5, r6, r7, r8, r9⟩ := HD.out.dcells)
    | (go_at_call 59; first
        | (with_reducible refine (HN1.out _).mono ?_; rintro _ w' ⟨rfl, rfl⟩)
        | (with_reducible refine (HN2.out _).mono ?_; rintro _ w' ⟨rfl, rfl⟩))
    | (go_at_call 21; refine (HU.out _).mono ?_; rintro _ w' ⟨rfl, hb⟩; have hX := HF.out.later (by first | exact hb | exact bt (Below.refl _ _).drew hb | exact bt (Below.refl _ _).drew.drew hb | exact bt (Below.refl _ _).drew.drew.drew hb); have f0 := hX.cell 0 _ rfl; have f1 := hX.cell 1 _ rfl; have f2 := hX.cell 2 _ rfl; have f3 := hX.cell 3 _ rfl; have z0 := hX.free 0 (by unfold lstR; simp); have z1 := hX.free 1 (by unfold lstR; simp); have z2 := hX.free 2 (by unfold lstR; simp); have z3 := hX.free 3 (by unfold lstR; simp)))
  all_goals (go_wp2_with fail)
  all_goals
    have hY := hX.setAll (lstR LO HI) rfl
    exact bodyPost_ret (v := rv LO HI) (results_lone Tryz.results32 _ rfl (run_loadVar_mid _ _ 0 26 (lstR LO HI) _ hY.range Tryz.underlying26 rfl info_run)) rfl ⟨rfl, hY.below⟩

/-- A date's strings are short. -/
def Dt.shrt (d : Dt) : Bool := decide (d.dg.size ≤ 40) && (decide (d.mo.size ≤ 10) && decide (d.da.size ≤ 10))
theorem short_any (d : Dt) (w : World) :
    Calls Tryz.prog 26 #[dtv d] w fun r w' => r = .returned (.bool d.shrt) ∧ Below w.heap.size w w' := by
  have hD := Dm.new d w 52
  obtain ⟨R, hR⟩ : ∃ R, R = d.shrt := ⟨_, rfl⟩
  rw [← hR]
  unfold Dt.shrt at hR
  unfold dtv
  by_cases c1 : d.dg.size ≤ 40
  case neg =>
    rw [decide_eq_false c1] at hR
    subst hR
    go_enter Tryz.func26, Tryz.ntmps26
    go_upto_region 1 with (fail)
    generalize World.alloc _ _ = W0 at hD ⊢
    obtain ⟨q0, q1, q2, q3, q4, q5, q6, q7, q8, q9, qB⟩ := id hD
    go_wp2
    go_ret
    exact ⟨rfl, hD.below⟩
  rw [decide_eq_true c1] at hR
  by_cases c2 : d.mo.size ≤ 10
  case neg =>
    rw [decide_eq_false c2] at hR
    subst hR
    go_enter Tryz.func26, Tryz.ntmps26
    go_upto_region 1 with (fail)
    generalize World.alloc _ _ = W0 at hD ⊢
    obtain ⟨q0, q1, q2, q3, q4, q5, q6, q7, q8, q9, qB⟩ := id hD
    go_wp2
    go_ret
    exact ⟨rfl, hD.below⟩
  rw [decide_eq_true c2] at hR
  by_cases c3 : d.da.size ≤ 10
  case neg =>
    rw [decide_eq_false c3] at hR
    subst hR
    go_enter Tryz.func26, Tryz.ntmps26
    go_upto_region 1 with (fail)
    generalize World.alloc _ _ = W0 at hD ⊢
    obtain ⟨q0, q1, q2, q3, q4, q5, q6, q7, q8, q9, qB⟩ := id hD
    go_wp2
    go_ret
    exact ⟨rb (decide_eq_false (by omega)), hD.below⟩
  rw [decide_eq_true c3] at hR
  subst hR
  go_enter Tryz.func26, Tryz.ntmps26
  go_upto_region 1 with (fail)
  generalize World.alloc _ _ = W0 at hD ⊢
  obtain ⟨q0, q1, q2, q3, q4, q5, q6, q7, q8, q9, qB⟩ := id hD
  go_wp2
  go_ret
  exact ⟨rb (decide_eq_true (by omega)), hD.below⟩
end Bk
end Go.Proofs.YtipjmaimjchckaaGreatDoor

