/- THE WALKS of fillings.Check, check, Next, Has. -/
import Derived.Test.YtipjmaimjchckaaGreatDoorNF
/-! THE WALKS of fillings.Check, check, Next, Has. -/
set_option linter.unusedSimpArgs false
set_option linter.unusedVariables false
set_option maxRecDepth 100000
namespace Go.Proofs.YtipjmaimjchckaaGreatDoor
open Go.RowKit Go.Lib
namespace Bk
open Un (ba bt ri rb ret2_ii ret2_bi)

theorem fmd {d : Dt} (h : d.form = 0) : d.mo.size = 0 → d.da.size = 0 := fun e => by
  rcases form_facts h with ⟨_, h1, _⟩ | ⟨_, h1, _⟩ | ⟨_, _, h1⟩
  · exact absurd e h1
  · exact absurd e h1
  · exact h1
theorem fmm {d : Dt} (h : d.form = 0) : d.da.size ≠ 0 → ∀ m, m ∈ d.ms → 1 ≤ m ∧ m ≤ 12 := fun e m hm => by
  rcases form_facts h with ⟨_, _, h1⟩ | ⟨h1, h2, _⟩ | ⟨_, _, h1⟩
  · exact absurd h1 e
  · rw [Dt.ms_fits h1 h2, mem_fitsL] at hm
    omega
  · exact absurd h1 e
/-- of and seek, one behind the other. -/
theorem seekForm (d : Dt) (mv dv : Value) (cy cm ck : Int) (w : World) (hk : WOk w) (hy : d.dg.size ≤ 1000) (hf : d.form = 0)
    (y0 : -9223372036854775808 ≤ cy) (y1 : cy < 9223372036854775808) (hm : IntSl w mv d.ms) (hd : IntSl w dv d.ds) :
    Calls Tryz.prog 78 #[fmv d mv dv, cvv cy cm ck, .bool true] w (RetSought d cy cm ck w) :=
  seek_any d mv dv cy cm ck w hk hy (Dt.yearOk_facts (Dt.form_zero hf).1).1 (fmd hf) y0 y1 hm hd (fmm hf)
theorem err_form {d : Dt} (h : d.form ≠ 0) : d.err = d.form := by unfold Dt.err; rw [if_pos h]
theorem err_plain {d : Dt} (h : d.form = 0) (h2 : d.da.size = 0) : d.err = 0 := by unfold Dt.err; rw [if_neg (by omega), if_neg (fun c => c.1 h2)]
theorem err_some {d : Dt} {y m k : Int} {ok : Bool} (h : d.form = 0) (h2 : ¬ d.da.size = 0) (hs : d.Sought (-9223372036854775808) 0 0 y m k ok) : d.err = if ok = true then 0 else 8 := by
  have hx := Dt.sought_some (fun u hu => by have := Dt.in_bd (Dt.yearOk_facts (Dt.form_zero h).1).1 hu; omega) hs
  unfold Dt.err
  rw [if_neg (by omega)]
  cases ok
  · rw [if_pos ⟨h2, fun hh => by have := hx.2 hh; cases this⟩]; rfl
  · rw [if_neg (fun hh => hh.2 (hx.1 rfl))]; rfl

set_option maxHeartbeats 4000000 in
theorem fCheck_any (d : Dt) (w : World) (hk : WOk w) (hs : d.mo.size ≤ 1000) (hy : d.dg.size ≤ 1000) (m0 : 0 ≤ d.m0) (m1 : 0 ≤ d.m1) (m2 : 0 ≤ d.m2) :
    Calls Tryz.prog 49 #[dtv d] w fun r w' => r = .returned (.int .i64 d.err) ∧ Below w.heap.size w w' := by
  have hD : Rw w.heap.size (lstD d) w _ := Rw.fresh (Below.refl _ _) (lstD d) 52
  have HC := Lib.hid (fun W hb => dCheck_any d W (hk.below (w' := W) hb) hs hy m0 m1 m2)
  have HO := Lib.hid (fun W hb hf => of_any d W (hk.below (w' := W) hb) hs hf)
  have HS := Lib.hid (fun mv dv W hb hf hm hd => seekForm d mv dv (-9223372036854775808) 0 0 W (hk.below (w' := W) hb) hy hf (by omega) (by omega) hm hd)
  unfold cvv fmv at HS
  clear hk hs hy m0 m1 m2
  rw [dtv_eq] at HC HO
  obtain ⟨er, her⟩ : ∃ er, er = d.err := ⟨_, rfl⟩
  rw [← her]
  replace her := Lib.hid her
  unfold dtv
  go_enter Tryz.func49, Tryz.ntmps49
  unfold lstD at hD
  go_upto_region 1 with (fail)
  generalize World.alloc _ _ = W0 at hD ⊢
  have HD : Hid (Rw w.heap.size (lstD d) w W0) := Lib.hid hD
  clear hD
  have hR := HD.out.range
  by_cases hf : d.form = 0
  · have HF := Lib.hid hf
    rw [hf] at HC
    clear hf
    go_upto_region 4 with (first
      | (refine wpList_load_mid rfl 52 (.tmp 1) rfl w.heap.size 0 rfl (lstD d) _ hR Tryz.underlying52 rfl info_date ?_)
      | (go_at_call 76; refine (HC.out _ HD.out.below).mono ?_; rintro _ w1 ⟨rfl, hb⟩))
    replace HD := Lib.hid (HD.out.later hb)
    clear hR hb
    have hR := HD.out.range
    have g6 := HD.out.cell 6 _ rfl
    rcases emp_cases d.da with ⟨c, e1⟩ | ⟨c, e1⟩
    · have HE := Lib.hid (her.out.trans (err_plain HF.out c))
      clear c
      go_wp2_with fail
      go_ret
      exact ⟨by rw [HE.out]; rfl, HD.out.below⟩
    · have HE : Hid (∀ y m k ok, d.Sought (-9223372036854775808) 0 0 y m k ok → er = if ok = true then 0 else 8) := Lib.hid (fun y m k ok hs => her.out.trans (err_some HF.out c hs))
      clear c
      go_wp2_with (first
        | (refine wpList_load_mid rfl 52 (.tmp 1) rfl w.heap.size 0 rfl (lstD d) _ hR Tryz.underlying52 rfl info_date ?_)
        | (go_at_call 77; refine (HO.out _ HD.out.below HF.out).mono ?_; rintro _ w2 ⟨mv, dv, rfl, hm, hd, hb2⟩; have HBm := Lib.hid (bt HD.out.below hb2); have HS2 := Lib.hid (HS.out mv dv w2 HBm.out HF.out hm hd); clear hm hd hb2))
      refine HS2.out.mono ?_
      rintro _ w3 ⟨y, m, k, ok, hso, rfl, hb3⟩
      have HB3 := Lib.hid (bt HBm.out hb3)
      have HE2 := Lib.hid (HE.out y m k ok hso)
      unfold cvv
      clear hso hb3 HS2
      cases ok
      · go_wp2_with fail
        go_ret
        exact ⟨by rw [HE2.out]; rfl, ba HB3.out _⟩
      · go_wp2_with fail
        go_ret
        exact ⟨by rw [HE2.out]; rfl, ba HB3.out _⟩
  · have HE := Lib.hid (her.out.trans (err_form hf))
    generalize d.form = fo at *
    go_wp2_with (first
      | (refine wpList_load_mid rfl 52 (.tmp 1) rfl w.heap.size 0 rfl (lstD d) _ hR Tryz.underlying52 rfl info_date ?_)
      | (go_at_call 76; refine (HC.out _ HD.out.below).mono ?_; rintro _ w1 ⟨rfl, hb⟩))
    go_ret
    exact ⟨by rw [HE.out]; rfl, bt HD.out.below hb⟩
/-- The error of fillings.check: a year that tells how many of its digits count has no fillings. -/
noncomputable def Dt.cerr (d : Dt) : Int := if d.err ≠ 0 then d.err else if 0 < d.sig then 1 else 0
set_option maxHeartbeats 4000000 in
theorem fcheck_any (d : Dt) (w : World) (hk : WOk w) (hs : d.mo.size ≤ 1000) (hy : d.dg.size ≤ 1000) (m0 : 0 ≤ d.m0) (m1 : 0 ≤ d.m1) (m2 : 0 ≤ d.m2) :
    Calls Tryz.prog 128 #[dtv d] w fun r w' => r = .returned (.int .i64 d.cerr) ∧ Below w.heap.size w w' := by
  have hD : Rw w.heap.size (lstD d) w _ := Rw.fresh (Below.refl _ _) (lstD d) 52
  have HC := Lib.hid (fun W hb => fCheck_any d W (hk.below (w' := W) hb) hs hy m0 m1 m2)
  clear hk hs hy m0 m1 m2
  rw [dtv_eq] at HC
  obtain ⟨er, her⟩ : ∃ er, er = d.cerr := ⟨_, rfl⟩
  rw [← her]
  unfold Dt.cerr at her
  replace her := Lib.hid her
  generalize d.err = fo at *
  unfold dtv
  go_enter Tryz.func128, Tryz.ntmps128
  unfold lstD at hD
  go_upto_region 1 with (fail)
  generalize World.alloc _ _ = W0 at hD ⊢
  have HD : Hid (Rw w.heap.size (lstD d) w W0) := Lib.hid hD
  clear hD
  have hR := HD.out.range
  by_cases hf : fo = 0
  · subst hf
    go_upto_region 4 with (first
      | (refine wpList_load_mid rfl 52 (.tmp 1) rfl w.heap.size 0 rfl (lstD d) _ hR Tryz.underlying52 rfl info_date ?_)
      | (go_at_call 49; refine (HC.out _ HD.out.below).mono ?_; rintro _ w1 ⟨rfl, hb⟩))
    replace HD := Lib.hid (HD.out.later hb)
    clear hR hb
    have g4 := HD.out.cell 4 _ rfl
    by_cases hg : 0 < d.sig
    · have HE : Hid (er = 1) := Lib.hid (by rw [her.out, if_neg (by simp), if_pos hg])
      go_wp2_with fail
      go_ret
      exact ⟨by rw [HE.out]; rfl, HD.out.below⟩
    · have HE : Hid (er = 0) := Lib.hid (by rw [her.out, if_neg (by simp), if_neg hg])
      go_wp2_with fail
      go_ret
      exact ⟨by rw [HE.out]; rfl, HD.out.below⟩
  · have HE : Hid (er = fo) := Lib.hid (by rw [her.out, if_pos hf])
    go_wp2_with (first
      | (refine wpList_load_mid rfl 52 (.tmp 1) rfl w.heap.size 0 rfl (lstD d) _ hR Tryz.underlying52 rfl info_date ?_)
      | (go_at_call 49; refine (HC.out _ HD.out.below).mono ?_; rintro _ w1 ⟨rfl, hb⟩))
    go_ret
    exact ⟨by rw [HE.out]; rfl, bt HD.out.below hb⟩
end Bk
end Go.Proofs.YtipjmaimjchckaaGreatDoor

/-! THE WALKS of fillings.Next, Has. -/
set_option linter.unusedSimpArgs false
set_option linter.unusedVariables false
set_option maxRecDepth 100000
namespace Go.Proofs.YtipjmaimjchckaaGreatDoor
open Go.RowKit Go.Lib
namespace Bk
open Un (ba bt ri rb ret2_ii ret2_bi)

/-- What fillings.Next answers. -/
def Dt.NextR (d : Dt) (cy cm ck : Int) (y m k : Int) (ok : Bool) : Prop := (d.cerr = 0 ∧ d.Sought cy cm ck y m k ok) ∨ (d.cerr ≠ 0 ∧ y = 0 ∧ m = 0 ∧ k = 0 ∧ ok = false)
def RetNext (d : Dt) (cy cm ck : Int) (w : World) (e : Ending) (w' : World) : Prop := ∃ y m k ok, d.NextR cy cm ck y m k ok ∧ e = .returned (.tuple #[cvv y m k, .bool ok, .int .i64 d.cerr]) ∧ Below w.heap.size w w'
theorem cerr_form {d : Dt} (h : d.cerr = 0) : d.form = 0 := by
  unfold Dt.cerr at h
  by_cases c : d.form = 0
  · exact c
  · rw [err_form c, if_pos c] at h; exact absurd h c

theorem results_three {fn : Func} {p q r : Tmp} {ty : TypeId} (h : fn.results = #[.cell p ty, .tmp q, .tmp r]) (tmps : Array Value) {P : Program} {w : World} {a : Addr} {v u x : Value}
    (hp : tmps.getD p undef = .pointer (some a)) (hq : tmps.getD q undef = u) (hr : tmps.getD r undef = x) (hl : (loadVar ty a).run P w = .ok v w) : (results fn tmps).run P w = .ok (.tuple #[v, u, x]) w := by
  have hp' : tmps[p]?.getD undef = .pointer (some a) := by simpa using hp
  have hq' : tmps[q]?.getD undef = u := by simpa using hq
  have hr' : tmps[r]?.getD undef = x := by simpa using hr
  simp [results, h, hp', hq', hr', asAddr, hl]
theorem next_ret {d : Dt} {cy cm ck y m k : Int} {ok : Bool} {p6 : Nat} {w wO : World} {tmps : Array Value} (ho : Rw p6 (lstC y m k) w wO) (h : d.NextR cy cm ck y m k ok)
    (hp : tmps.getD 4 undef = .pointer (some ⟨p6, 0, none⟩)) (hq : tmps.getD 5 undef = .bool ok) (hr : tmps.getD 6 undef = .int .i64 d.cerr) :
    bodyPost Tryz.prog Tryz.f84 (RetNext d cy cm ck w) Exit.ret ⟨tmps, []⟩ wO := by
  have hv := run_loadVar_mid (P := Tryz.prog) _ p6 0 56 (lstC y m k) _ ho.range Tryz.underlying56 rfl info_civil
  exact bodyPost_ret (v := .tuple #[cvv y m k, .bool ok, .int .i64 d.cerr]) (results_three Tryz.results84 _ hp hq hr hv) rfl ⟨y, m, k, ok, h, rfl, ho.below⟩

set_option maxHeartbeats 4000000 in
theorem fNext_any (d : Dt) (cy cm ck : Int) (w : World) (hk : WOk w) (hs : d.mo.size ≤ 1000) (hy : d.dg.size ≤ 1000) (m0 : 0 ≤ d.m0) (m1 : 0 ≤ d.m1) (m2 : 0 ≤ d.m2)
    (y0 : -9223372036854775808 ≤ cy) (y1 : cy < 9223372036854775808) :
    Calls Tryz.prog 84 #[dtv d, cvv cy cm ck] w (RetNext d cy cm ck w) := by
  have hD : Rw w.heap.size (lstD d) w _ := Rw.fresh (Below.refl _ _) (lstD d) 52
  have hD2 := Rw.fresh hD.below (lstC cy cm ck) 56
  have hD3 := Rw.fresh hD2.below (lstC 0 0 0) 56
  simp only [alloc_size] at hD2 hD3
  have hA : _ ∧ _ ∧ _ := ⟨(hD.later (ba (Below.refl _ _) (.cells (lstC cy cm ck).toArray 56))).later (ba (Below.refl _ _) (.cells (lstC 0 0 0).toArray 56)), hD2.later (ba (Below.refl _ _) (.cells (lstC 0 0 0).toArray 56)), hD3⟩
  clear hD hD2 hD3
  have HC := Lib.hid (fun W hb => fcheck_any d W (hk.below (w' := W) hb) hs hy m0 m1 m2)
  have HO := Lib.hid (fun W hb hf => of_any d W (hk.below (w' := W) hb) hs hf)
  have HS := Lib.hid (fun mv dv W hb hf hm hd => seekForm d mv dv cy cm ck W (hk.below (w' := W) hb) hy hf y0 y1 hm hd)
  unfold cvv fmv at HS
  clear hk hs hy m0 m1 m2
  rw [dtv_eq] at HC HO
  unfold dtv cvv
  unfold lstD lstC at hA
  go_enter Tryz.func84, Tryz.ntmps84
  go_upto_region 1 with (fail)
  generalize World.alloc _ _ = W0 at hA ⊢
  have HD : Hid (Rw w.heap.size (lstD d) w W0) := Lib.hid hA.1
  have HE : Hid (Rw (w.heap.size + 1) (lstC cy cm ck) w W0) := Lib.hid hA.2.1
  have HF : Hid (Rw (w.heap.size + 1 + 1) (lstC 0 0 0) w W0) := Lib.hid hA.2.2
  clear hA
  have hR := HD.out.range
  generalize w.heap.size + 1 + 1 = p6 at *
  generalize w.heap.size + 1 = p5 at *
  by_cases hc : d.cerr = 0
  · have HCE := Lib.hid hc
    have HFM := Lib.hid (cerr_form hc)
    rw [hc] at HC
    clear hc
    go_upto_region 4 with (first
      | (refine wpList_load_mid rfl 52 (.tmp 2) rfl w.heap.size 0 rfl (lstD d) _ hR Tryz.underlying52 rfl info_date ?_)
      | (go_at_call 128; refine (HC.out _ HD.out.below).mono ?_; rintro _ w1 ⟨rfl, hb⟩))
    replace HD := Lib.hid (HD.out.later hb)
    replace HE := Lib.hid (HE.out.later hb)
    replace HF := Lib.hid (HF.out.later hb)
    clear hR hb HC
    go_cut [5] (fun s wx => ∃ y m k ok, s = .bool ok ∧ d.Sought cy cm ck y m k ok ∧ Rw p6 (lstC y m k) w wx)
    case first =>
      obtain ⟨r0, r1, r2, r3, r4, r5, r6, r7, r8, r9⟩ := HD.out.dcells
      unfold lstD at HO
      have e0 := HE.out.cell 0 _ rfl
      have e1 := HE.out.cell 1 _ rfl
      have e2 := HE.out.cell 2 _ rfl
      go_region_with (first
        | (go_at_call 77; refine (HO.out _ (by first | exact HD.out.below | exact HD.out.below.drew | exact HD.out.below.drew.drew) HFM.out).mono ?_; rintro _ w2 ⟨mv, dv, rfl, hm, hd, hb2⟩; have hb2 : Below w1.heap.size w1 w2 := (by first | exact hb2 | exact bt (Below.refl _ _).drew hb2 | exact bt (Below.refl _ _).drew.drew hb2); have HBm := Lib.hid (bt HD.out.below hb2); have HS2 := Lib.hid (HS.out mv dv w2 HBm.out HFM.out hm hd); have HE2 := Lib.hid (HE.out.later hb2); have HF2 := Lib.hid (HF.out.later hb2); clear hm hd hb2; have e0 := HE2.out.cell 0 _ rfl; have e1 := HE2.out.cell 1 _ rfl; have e2 := HE2.out.cell 2 _ rfl)
        | (go_at_call 78; refine HS2.out.mono ?_; rintro _ w3 ⟨y, m, k, ok, hso, rfl, hb3⟩; unfold cvv; have HF3 := Lib.hid (HF2.out.later hb3); have HSO := Lib.hid hso; clear hb3 hso; have f0 := HF3.out.cell 0 _ rfl; have f1 := HF3.out.cell 1 _ rfl; have f2 := HF3.out.cell 2 _ rfl; have z0 := HF3.out.free 0 (by unfold lstC; simp); have z1 := HF3.out.free 1 (by unfold lstC; simp); have z2 := HF3.out.free 2 (by unfold lstC; simp)))
      all_goals (go_wp2_with fail)
      all_goals (go_meet; exact ⟨_, _, _, _, rfl, HSO.out, HF3.out.setAll (lstC _ _ _) rfl⟩)
    case rest =>
      obtain ⟨y, m, k, ok, rfl, hso, hX⟩ := hcut
      have HN : Hid (d.NextR cy cm ck y m k ok) := Lib.hid (.inl ⟨HCE.out, hso⟩)
      have HX := Lib.hid hX
      clear hX hso HS HO HD HE HF
      have f0 := HX.out.cell 0 _ rfl
      have f1 := HX.out.cell 1 _ rfl
      have f2 := HX.out.cell 2 _ rfl
      have z0 := HX.out.free 0 (by unfold lstC; simp)
      have z1 := HX.out.free 1 (by unfold lstC; simp)
      have z2 := HX.out.free 2 (by unfold lstC; simp)
      go_wp2_with fail
      exact next_ret (HX.out.setAll (lstC y m k) rfl) HN.out rfl rfl (by rw [HCE.out]; rfl)
  · have HN : Hid (d.NextR cy cm ck 0 0 0 false) := Lib.hid (.inr ⟨hc, rfl, rfl, rfl, rfl⟩)
    obtain ⟨er, her⟩ : ∃ er, er = d.cerr := ⟨_, rfl⟩
    rw [← her] at HC hc
    have HER := Lib.hid her
    clear her
    go_wp2_with (first
      | (refine wpList_load_mid rfl 52 (.tmp 2) rfl w.heap.size 0 rfl (lstD d) _ hR Tryz.underlying52 rfl info_date ?_)
      | (go_at_call 128; refine (HC.out _ HD.out.below).mono ?_; rintro _ w1 ⟨rfl, hb⟩; have HF2 := Lib.hid (HF.out.later hb); have f0 := HF2.out.cell 0 _ rfl; have f1 := HF2.out.cell 1 _ rfl; have f2 := HF2.out.cell 2 _ rfl; have z0 := HF2.out.free 0 (by unfold lstC; simp); have z1 := HF2.out.free 1 (by unfold lstC; simp); have z2 := HF2.out.free 2 (by unfold lstC; simp)))
    exact next_ret (HF2.out.setAll (lstC 0 0 0) rfl) HN.out rfl rfl (by rw [← HER.out]; rfl)
end Bk
end Go.Proofs.YtipjmaimjchckaaGreatDoor

/-! THE WALK of fillings.Has. -/
set_option linter.unusedSimpArgs false
set_option linter.unusedVariables false
set_option maxRecDepth 100000
namespace Go.Proofs.YtipjmaimjchckaaGreatDoor
open Go.RowKit Go.Lib
namespace Bk
open Un (ba bt ri rb ret2_ii ret2_bi)

/-- What fillings.Has answers. -/
def Dt.Has (d : Dt) (cy cm ck : Int) : Prop := d.cerr = 0 ∧ ∃ n j, d.Fill cy n j ∧ (d.mo.size = 0 ∨ n = cm) ∧ (d.da.size = 0 ∨ j = ck)
theorem has_of_next {d : Dt} {cy cm ck y m k : Int} {ok : Bool} (h : d.NextR cy cm ck y m k ok) : (d.cerr = 0 ∧ ok = true ∧ y = cy ∧ (d.mo.size = 0 ∨ m = cm) ∧ (d.da.size = 0 ∨ k = ck)) ↔ d.Has cy cm ck := by
  unfold Dt.Has
  rcases h with ⟨h0, hs⟩ | ⟨h0, _, _, _, rfl⟩
  · have := Dt.sought_has (fmd (cerr_form h0)) hs
    rw [← this]
    unfold Dt.Is
    simp [h0]
  · simp [h0]

def RetHas (d : Dt) (cy cm ck : Int) (w : World) (e : Ending) (w' : World) : Prop := ∃ b : Bool, (b = true ↔ d.Has cy cm ck) ∧ e = .returned (.bool b) ∧ Below w.heap.size w w'
set_option maxHeartbeats 4000000 in
theorem fHas_any (d : Dt) (cy cm ck : Int) (w : World) (hk : WOk w) (hs : d.mo.size ≤ 1000) (hy : d.dg.size ≤ 1000) (m0 : 0 ≤ d.m0) (m1 : 0 ≤ d.m1) (m2 : 0 ≤ d.m2)
    (y0 : -9223372036854775808 ≤ cy) (y1 : cy < 9223372036854775808) :
    Calls Tryz.prog 55 #[dtv d, cvv cy cm ck] w (RetHas d cy cm ck w) := by
  have hD : Rw w.heap.size (lstD d) w _ := Rw.fresh (Below.refl _ _) (lstD d) 52
  have hD2 := Rw.fresh hD.below (lstC cy cm ck) 56
  simp only [alloc_size] at hD2
  have hA : _ ∧ _ := ⟨hD.later (ba (Below.refl _ _) (.cells (lstC cy cm ck).toArray 56)), hD2⟩
  clear hD hD2
  have HN := Lib.hid (fun W hb => fNext_any d cy cm ck W (hk.below (w' := W) hb) hs hy m0 m1 m2 y0 y1)
  unfold cvv at HN
  clear hk hs hy m0 m1 m2
  rw [dtv_eq] at HN
  unfold dtv cvv
  unfold lstD lstC at hA
  go_enter Tryz.func55, Tryz.ntmps55
  go_upto_region 1 with (fail)
  generalize World.alloc _ _ = W0 at hA ⊢
  have HD : Hid (Rw w.heap.size (lstD d) w W0) := Lib.hid hA.1
  have HE : Hid (Rw (w.heap.size + 1) (lstC cy cm ck) w W0) := Lib.hid hA.2
  clear hA
  have hR := HD.out.range
  have e0 := HE.out.cell 0 _ rfl
  have e1 := HE.out.cell 1 _ rfl
  have e2 := HE.out.cell 2 _ rfl
  generalize w.heap.size + 1 = p5 at *
  go_cut [5, 6, 7] (fun s5 s6 s7 wx => ∃ p y m k ok, s5 = .pointer (some ⟨p, 0, none⟩) ∧ s6 = .bool ok ∧ s7 = .int .i64 d.cerr ∧ d.NextR cy cm ck y m k ok ∧ Rw p (lstC y m k) w wx ∧ Rw w.heap.size (lstD d) w wx ∧ Rw p5 (lstC cy cm ck) w wx)
  case first =>
    go_wp2_with (first
      | (refine wpList_load_mid rfl 52 (.tmp 2) rfl w.heap.size 0 rfl (lstD d) _ hR Tryz.underlying52 rfl info_date ?_)
      | (go_at_call 84; refine (HN.out _ HD.out.below).mono ?_; rintro _ w1 ⟨y, m, k, ok, hx, rfl, hb⟩; have HX := Lib.hid hx; unfold cvv; have HD2 := Lib.hid (HD.out.later hb); have HE2 := Lib.hid (HE.out.later hb); have hNb := bt HD.out.below hb; have HF := Lib.hid (Rw.fresh hNb (lstC y m k) 56); clear hx hNb))
    go_meet
    have hb2 := ba (Below.refl w1.heap.size w1) (.cells (lstC y m k).toArray 56)
    exact ⟨_, _, _, _, _, rfl, rfl, rfl, HX.out, HF.out, HD2.out.later hb2, HE2.out.later hb2⟩
  case rest =>
    obtain ⟨p, y, m, k, ok, rfl, rfl, rfl, hx, hF, hD, hE⟩ := hcut
    have HX := Lib.hid (has_of_next hx)
    clear e0 e1 e2 hR HN
    have e0 := hE.cell 0 _ rfl
    have e1 := hE.cell 1 _ rfl
    have e2 := hE.cell 2 _ rfl
    have f0 := hF.cell 0 _ rfl
    have f1 := hF.cell 1 _ rfl
    have f2 := hF.cell 2 _ rfl
    obtain ⟨q0, q1, q2, q3, q4, q5, q6, q7, q8, q9⟩ := hD.dcells
    have HB := Lib.hid hD.below
    generalize d.cerr = er at *
    rcases emp_cases d.mo with ⟨c0, x0⟩ | ⟨c0, x0⟩ <;> rcases emp_cases d.da with ⟨c1, x1⟩ | ⟨c1, x1⟩ <;> cases ok
    all_goals
      as_aux_lemma =>
        go_wp2
        all_goals go_ret
        all_goals
          refine ⟨_, ?_, rfl, HB.out⟩
          rw [← HX.out]
          clear HX HB
          (try simp only [beq_iff_eq, bne_iff_ne, beq_eq_false_iff_ne, decide_eq_true_eq, decide_eq_false_iff_not, Bool.not_eq_true, Bool.and_eq_true, Bool.or_eq_true, ne_eq] at *)
          first | (simp [*]; done) | (simp; omega)
end Bk
end Go.Proofs.YtipjmaimjchckaaGreatDoor

