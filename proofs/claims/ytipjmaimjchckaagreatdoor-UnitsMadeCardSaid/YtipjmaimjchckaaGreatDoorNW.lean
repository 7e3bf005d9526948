/- THE LAW UnitsMade. -/
import Derived.Test.YtipjmaimjchckaaGreatDoorNU
import Derived.Test.YtipjmaimjchckaaGreatDoorNV
import Derived.Test.YtipjmaimjchckaaGreatDoorNQ
/-! THE LAW UnitsMade. -/
set_option linter.unusedSimpArgs false
set_option linter.unusedVariables false
set_option maxRecDepth 100000
namespace Go.Proofs.YtipjmaimjchckaaGreatDoor
open Go.RowKit Go.Lib
namespace Bk
open Un (ba bt ri rb ret2_ii ret2_bi)
open Un (holdAll isC holding_any is_any)

/-- Two blocks. -/
structure Mw (ga gb : Nat) (vs : List Value) (lo hi : Int) (w W : World) : Prop where
  dd : Rw ga vs w W
  aa : Rw gb (lstR lo hi) w W
theorem Mw.later {ga gb : Nat} {vs : List Value} {lo hi : Int} {w W W2 : World} (h : Mw ga gb vs lo hi w W) (hb : Below W.heap.size W W2) : Mw ga gb vs lo hi w W2 := ⟨h.dd.later hb, h.aa.later hb⟩
theorem Mw.S {ga gb : Nat} {d : Dt} {lo hi : Int} {w w' : World} (h : Mw ga gb (lstD d) lo hi w w') : w'.cell? ⟨gb, 0, none⟩ = some (.int .i8 0) ∧ w'.cell? ⟨gb, 1, none⟩ = some (.int .i64 lo) ∧ w'.cell? ⟨gb, 2, none⟩ = some (.int .i8 0) ∧ w'.cell? ⟨gb, 3, none⟩ = some (.int .i64 hi) ∧ w'.cell? ⟨ga, 0, none⟩ = some (.bool d.neg) ∧ w'.cell? ⟨ga, 1, none⟩ = some (.bool d.long) ∧ w'.cell? ⟨ga, 2, none⟩ = some (.string d.dg) ∧ w'.cell? ⟨ga, 3, none⟩ = some (.int .i64 d.ex) ∧ w'.cell? ⟨ga, 4, none⟩ = some (.int .i64 d.sig) ∧ w'.cell? ⟨ga, 5, none⟩ = some (.string d.mo) ∧ w'.cell? ⟨ga, 6, none⟩ = some (.string d.da) ∧ w'.cell? ⟨ga, 7, none⟩ = some (.int .u8 d.m0) ∧ w'.cell? ⟨ga, 8, none⟩ = some (.int .u8 d.m1) ∧ w'.cell? ⟨ga, 9, none⟩ = some (.int .u8 d.m2) ∧ Mw ga gb (lstD d) lo hi w w' := by
  obtain ⟨q0, q1, q2, q3, q4, q5, q6, q7, q8, q9⟩ := h.dd.dcells
  exact ⟨h.aa.cell 0 _ rfl, h.aa.cell 1 _ rfl, h.aa.cell 2 _ rfl, h.aa.cell 3 _ rfl, q0, q1, q2, q3, q4, q5, q6, q7, q8, q9, h⟩
theorem Mw.S2 {ga gb : Nat} {y m k : Int} {lo hi : Int} {w w' : World} (h : Mw ga gb (lstC y m k) lo hi w w') : w'.cell? ⟨gb, 0, none⟩ = some (.int .i8 0) ∧ w'.cell? ⟨gb, 1, none⟩ = some (.int .i64 lo) ∧ w'.cell? ⟨gb, 2, none⟩ = some (.int .i8 0) ∧ w'.cell? ⟨gb, 3, none⟩ = some (.int .i64 hi) ∧ w'.cell? ⟨ga, 0, none⟩ = some (.int .i64 y) ∧ w'.cell? ⟨ga, 1, none⟩ = some (.int .i64 m) ∧ w'.cell? ⟨ga, 2, none⟩ = some (.int .i64 k) ∧ Mw ga gb (lstC y m k) lo hi w w' :=
  ⟨h.aa.cell 0 _ rfl, h.aa.cell 1 _ rfl, h.aa.cell 2 _ rfl, h.aa.cell 3 _ rfl, h.dd.cell 0 _ rfl, h.dd.cell 1 _ rfl, h.dd.cell 2 _ rfl, h⟩
/-- What is known of D's date. -/
structure Good (d : Dt) : Prop where
  err : d.err = 0
  fill : ∃ y m k, d.Fill y m k
  dg : d.dg.size ≤ 5
  mo : d.mo.size ≤ 2
  da : d.da.size ≤ 2
  s0 : 0 ≤ d.sig
  s1 : d.sig ≤ 100
  m0 : 0 ≤ d.m0
  m1 : 0 ≤ d.m1
  m2 : 0 ≤ d.m2
theorem holdIs {p x y : Int} (h : holdAll p x = (x, y, 0)) (w : World) (hs : Un.CalOk w) (h0 : -9223372036854775808 ≤ x) (h1 : x < 9223372036854775808) (p0 : 0 ≤ p) (p1 : p < 256) :
    Calls Tryz.prog 14 #[.agg #[.int .i8 0, .int .i64 x, .int .i8 0, .int .i64 y], .int .u8 p] w fun r w' => r = .returned (.bool true) ∧ Below w.heap.size w w' := by
  have := is_any p 0 x 0 y w hs h0 h1 p0 p1
  rw [isC_of h] at this
  exact this
theorem holdAt {p x y z : Int} (h : holdAll p z = (x, y, 0)) (w : World) (hs : Un.CalOk w) (h0 : -9223372036854775808 ≤ z) (h1 : z < 9223372036854775808) (p0 : 0 ≤ p) (p1 : p < 256) :
    Calls Tryz.prog 8 #[.int .i64 z, .int .u8 p] w fun r w' => r = .returned (.tuple #[.agg #[.int .i8 0, .int .i64 x, .int .i8 0, .int .i64 y], .int .i64 0]) ∧ Below w.heap.size w w' := by
  have := holding_any z p w hs h0 h1 p0 p1
  rw [h] at this
  exact this

/-- An operation of a drawn region taken first, its slot named. -/
theorem takeAt {P : Program} {md : Region.Mode} {ops : Array Oper} {Q : Exit → Act → World → Prop} {S : World → Prop} (i d : Nat) {oi : Oper} {v : Value} {fuel : Nat} {listed : Array Bool} {a : Act} {w : World} (hi : ops[i]? = some oi) (hd : oi.dst = some d)
    (hs : Region.noSelect ops = true) (hf : Region.free md ops listed i = true) (hr : (Region.ready md ops listed).contains i = true)
    (hQ : ∀ c a w, Q (.panic c) (a.put oi.dst v) w → Q (.panic c) a w) (hy : YieldsIf P ops S oi v a) (hS : S w)
    (h : wpAnyH P md ops Q S fuel (listed.setIfInBounds i true) (a.put (some d) v) w) : wpAnyH P md ops Q S (fuel + 1) listed a w :=
  wpAnyH_take hi hs hf hr hQ hy hS (by rw [hd]; exact h)

set_option maxHeartbeats 8000000 in
theorem lawMade_any (f : Nat) (neg0 : Bool) (n z0 z1 mo da k0 k1 k2 nn : Nat) (w : World) (hk : WOk w) (HL : ∀ W, Below w.heap.size w W → Calls Tryz.prog 10 #[] W fun r w' => r = .returned (.bool true) ∧ Below W.heap.size W w')
    (hf : f < 256) (hn : n < 65536) (h0 : z0 < 256) (h1 : z1 < 256) (h2 : mo < 256) (h3 : da < 256) (h4 : k0 < 256) (h5 : k1 < 256) (h6 : k2 < 256) (hnn : nn < 65536) :
    Calls Tryz.prog 7 #[.agg (ddl f neg0 n z0 z1 mo da k0 k1 k2).toArray, .int .u16 nn] w fun r w' => r = .returned (.bool true) ∧ Below w.heap.size w w' := by
  have hD : Rw w.heap.size (ddl f neg0 n z0 z1 mo da k0 k1 k2) w _ := Rw.fresh (Below.refl _ _) _ 70
  have HDO := Lib.hid (fun w => dOf_any f neg0 n z0 z1 mo da k0 k1 k2 w hf hn h0 h1 h2 h3 h4 h5 h6)
  replace HL := Lib.hid HL
  have HK := Lib.hid hk
  clear hf hn h0 h1 h2 h3 h4 h5 h6 hk
  unfold ddl at hD HDO
  unfold ddl
  go_enter Tryz.func7, Tryz.ntmps7
  go_upto_region 1 with (fail)
  generalize World.alloc _ _ = W0 at hD ⊢
  have c0 := hD.cell 0 _ rfl; have c1 := hD.cell 1 _ rfl; have c2 := hD.cell 2 _ rfl; have c3 := hD.cell 3 _ rfl; have c4 := hD.cell 4 _ rfl; have c5 := hD.cell 5 _ rfl; have c6 := hD.cell 6 _ rfl; have c7 := hD.cell 7 _ rfl; have c8 := hD.cell 8 _ rfl; have c9 := hD.cell 9 _ rfl
  have HD := Lib.hid hD
  clear hD
  go_cut [5] (fun s5 wx => ∃ (d : Dt) (ga : Nat), s5 = .pointer (some ⟨ga, 0, none⟩) ∧ Good d ∧ Rw ga (lstD d) w wx)
  case first =>
    clear HL HK
    go_wp2_with (go_at_call 34; refine (HDO.out _).mono ?_; rintro _ w1 ⟨d, g1, g2, g3, g4, g5, g6, g7, g8, g9, g10, rfl, hb⟩; have HG : Hid (Good d) := Lib.hid ⟨g1, g2, g3, g4, g5, g6, g7, g8, g9, g10⟩; clear g1 g2 g3 g4 g5 g6 g7 g8 g9 g10; unfold dtv)
    go_meet
    exact ⟨d, _, rfl, HG.out, Rw.fresh (bt HD.out.below hb) (lstD d) 52⟩
  case rest =>
  obtain ⟨d, ga, rfl, hG, hR⟩ := hcut
  clear HDO c0 c1 c2 c3 c4 c5 c6 c7 c8 c9 HD
  have he := hG.err
  have hfm := err_zero he
  have HG := Lib.hid hG
  have HR := Lib.hid hR
  have hm0 := hG.m0; have hm1 := hG.m1; have hm2 := hG.m2; have hd1 := hG.dg; have hd2 := hG.mo; have hd3 := hG.da; have hs0 := hG.s0; have hs1 := hG.s1
  have HO := Lib.hid (fun W hb => uOf_any d W (HK.out.below (w' := W) hb) (by omega) (by omega) (by omega) hm0 hm1 hm2)
  have HP := Lib.hid (fun W hb => uPrec_any d W (HK.out.below (w' := W) hb) (by omega) (by omega) hm0 hm1 hm2)
  have HFI := Lib.hid (fun y m k W hb y0 y1 => uFilled_any d y m k W (HK.out.below (w' := W) hb) (by omega) (by omega) hm0 hm1 hm2 y0 y1)
  have HM := Lib.hid (fun W => rMaskedD_any d W (by omega) (by omega) (by omega))
  have HALL := Lib.hid (fun W hs => rAll16_any d W (by omega) hfm hs)
  have HOF := Lib.hid (fun W h => rOf_any d W he h)
  have HUN := Lib.hid (fun y m k W h1 h2 h3 h4 => rUnit_any y m k W h1 h2 h3 h4)
  rw [dtv_eq] at HO HP HFI HM HALL HOF
  unfold cvv at HFI
  unfold rv at HO HOF HUN
  obtain ⟨P, hP⟩ : ∃ P, P = d.prec := ⟨_, rfl⟩
  rw [he, if_pos rfl, ← hP] at HP
  have HPP := Lib.hid hP
  have pb : P = 0 ∨ P = 1 ∨ P = 2 ∨ P = 3 := by rw [hP]; unfold Dt.prec; (repeat' split) <;> omega
  obtain ⟨B, hB⟩ : ∃ B, B = !d.msk := ⟨_, rfl⟩
  have HB := Lib.hid hB
  have HE := Lib.hid he
  have HFM := Lib.hid hfm
  clear hG hR hm0 hm1 hm2 hd1 hd2 hd3 hs0 hs1 hP hB he hfm
  have q0 : World.cell? _ ⟨ga, 0, none⟩ = some (.bool d.neg) := HR.out.cell 0 _ rfl; have q1 : World.cell? _ ⟨ga, 1, none⟩ = some (.bool d.long) := HR.out.cell 1 _ rfl; have q2 : World.cell? _ ⟨ga, 2, none⟩ = some (.string d.dg) := HR.out.cell 2 _ rfl; have q3 : World.cell? _ ⟨ga, 3, none⟩ = some (.int .i64 d.ex) := HR.out.cell 3 _ rfl; have q4 : World.cell? _ ⟨ga, 4, none⟩ = some (.int .i64 d.sig) := HR.out.cell 4 _ rfl; have q5 : World.cell? _ ⟨ga, 5, none⟩ = some (.string d.mo) := HR.out.cell 5 _ rfl; have q6 : World.cell? _ ⟨ga, 6, none⟩ = some (.string d.da) := HR.out.cell 6 _ rfl; have q7 : World.cell? _ ⟨ga, 7, none⟩ = some (.int .u8 d.m0) := HR.out.cell 7 _ rfl; have q8 : World.cell? _ ⟨ga, 8, none⟩ = some (.int .u8 d.m1) := HR.out.cell 8 _ rfl; have q9 : World.cell? _ ⟨ga, 9, none⟩ = some (.int .u8 d.m2) := HR.out.cell 9 _ rfl
  go_upto_region 2 with (fail)
  go_cut [6, 7] (fun s6 s7 wx => s6 = .int .u8 P ∧ s7 = .int .i64 0 ∧ Rw ga (lstD d) w wx)
  case first =>
    clear HO HFI HM HALL HOF HUN HL
    go_wp2_with (go_at_call 27; refine (HP.out _ HR.out.below).mono ?_; rintro _ w2 ⟨rfl, hb⟩)
    go_meet
    exact ⟨rfl, rfl, HR.out.later hb⟩
  case rest =>
  obtain ⟨rfl, rfl, hR⟩ := hcut
  replace HR := Lib.hid hR
  clear q0 q1 q2 q3 q4 q5 q6 q7 q8 q9
  clear hR HP
  have q0 : World.cell? _ ⟨ga, 0, none⟩ = some (.bool d.neg) := HR.out.cell 0 _ rfl; have q1 : World.cell? _ ⟨ga, 1, none⟩ = some (.bool d.long) := HR.out.cell 1 _ rfl; have q2 : World.cell? _ ⟨ga, 2, none⟩ = some (.string d.dg) := HR.out.cell 2 _ rfl; have q3 : World.cell? _ ⟨ga, 3, none⟩ = some (.int .i64 d.ex) := HR.out.cell 3 _ rfl; have q4 : World.cell? _ ⟨ga, 4, none⟩ = some (.int .i64 d.sig) := HR.out.cell 4 _ rfl; have q5 : World.cell? _ ⟨ga, 5, none⟩ = some (.string d.mo) := HR.out.cell 5 _ rfl; have q6 : World.cell? _ ⟨ga, 6, none⟩ = some (.string d.da) := HR.out.cell 6 _ rfl; have q7 : World.cell? _ ⟨ga, 7, none⟩ = some (.int .u8 d.m0) := HR.out.cell 7 _ rfl; have q8 : World.cell? _ ⟨ga, 8, none⟩ = some (.int .u8 d.m1) := HR.out.cell 8 _ rfl; have q9 : World.cell? _ ⟨ga, 9, none⟩ = some (.int .u8 d.m2) := HR.out.cell 9 _ rfl
  go_upto_region 5 with (fail)
  go_cut [27] (fun s wx => s = .bool B ∧ Rw ga (lstD d) w wx)
  case first =>
    clear HO HFI HALL HOF HUN HL
    cases hmk : d.msk
    · rw [hmk, if_neg (by decide)] at HM
      go_wp2_with (go_at_call 31; refine (HM.out _).mono ?_; rintro _ w2 ⟨rfl, hb⟩)
      go_meet
      exact ⟨by rw [HB.out, hmk]; rfl, HR.out.later hb⟩
    · rw [hmk, if_pos rfl] at HM
      go_wp2_with (go_at_call 31; refine (HM.out _).mono ?_; rintro _ w2 ⟨rfl, hb⟩)
      go_meet
      exact ⟨by rw [HB.out, hmk]; rfl, HR.out.later hb⟩
  case rest =>
  obtain ⟨rfl, hR⟩ := hcut
  replace HR := Lib.hid hR
  clear q0 q1 q2 q3 q4 q5 q6 q7 q8 q9
  clear hR HM
  cases B
  case true =>
    have hmk : d.msk = false := by have := HB.out; cases e : d.msk; rfl; rw [e] at this; cases this
    have hnu := Dt.own_nums HFM.out hmk
    have hho := hnu.hold
    have hbd := hnu.bd
    have eE : d.uE = 0 := by unfold Dt.uE; rw [if_neg (by simpa using HE.out), if_neg (by rw [hmk]; decide)]
    have eL : d.uLo = unitLo (yVal d.neg d.dg d.ex) (decS d.mo) (decS d.da) := by unfold Dt.uLo; rw [if_neg (by simpa using eE)]
    have eH : d.uHi = unitHi (yVal d.neg d.dg d.ex) (decS d.mo) (decS d.da) := by unfold Dt.uHi; rw [if_neg (by simpa using eE)]
    have HOF2 := Lib.hid (fun W => HOF.out W hmk)
    rw [eE] at HO
    rw [eL, eH] at HO HOF2
    rw [← HPP.out] at hho
    generalize unitLo (yVal d.neg d.dg d.ex) (decS d.mo) (decS d.da) = LO at *
    generalize unitHi (yVal d.neg d.dg d.ex) (decS d.mo) (decS d.da) = HI at *
    have HHO := Lib.hid hho
    have HBD := Lib.hid hbd
    clear hmk hnu hho hbd eE eL eH HOF HB HFI HALL HUN HE HFM HPP
    have q0 : World.cell? _ ⟨ga, 0, none⟩ = some (.bool d.neg) := HR.out.cell 0 _ rfl; have q1 : World.cell? _ ⟨ga, 1, none⟩ = some (.bool d.long) := HR.out.cell 1 _ rfl; have q2 : World.cell? _ ⟨ga, 2, none⟩ = some (.string d.dg) := HR.out.cell 2 _ rfl; have q3 : World.cell? _ ⟨ga, 3, none⟩ = some (.int .i64 d.ex) := HR.out.cell 3 _ rfl; have q4 : World.cell? _ ⟨ga, 4, none⟩ = some (.int .i64 d.sig) := HR.out.cell 4 _ rfl; have q5 : World.cell? _ ⟨ga, 5, none⟩ = some (.string d.mo) := HR.out.cell 5 _ rfl; have q6 : World.cell? _ ⟨ga, 6, none⟩ = some (.string d.da) := HR.out.cell 6 _ rfl; have q7 : World.cell? _ ⟨ga, 7, none⟩ = some (.int .u8 d.m0) := HR.out.cell 7 _ rfl; have q8 : World.cell? _ ⟨ga, 8, none⟩ = some (.int .u8 d.m1) := HR.out.cell 8 _ rfl; have q9 : World.cell? _ ⟨ga, 9, none⟩ = some (.int .u8 d.m2) := HR.out.cell 9 _ rfl
    go_upto_region 6 with (fail)
    go_cut [8, 9] (fun s8 s9 wx => ∃ gb, s8 = .pointer (some ⟨gb, 0, none⟩) ∧ s9 = .int .i64 0 ∧ Mw ga gb (lstD d) LO HI w wx)
    case first =>
      clear HOF2 HL HHO HBD
      go_wp2_with (go_at_call 23; refine (HO.out _ HR.out.below).mono ?_; rintro _ w2 ⟨rfl, hb⟩)
      go_meet
      exact ⟨_, rfl, rfl, (HR.out.later hb).later (ba (Below.refl _ _) _), Rw.fresh (bt HR.out.below hb) (lstR LO HI) 26⟩
    case rest =>
    obtain ⟨gb, rfl, rfl, hM⟩ := hcut
    clear q0 q1 q2 q3 q4 q5 q6 q7 q8 q9
    clear HO HR
    go_upto_region 7 with (fail)
    go_cut [50] (fun s wx => s = .bool false ∧ Mw ga gb (lstD d) LO HI w wx)
    case first =>
      clear HL
      obtain ⟨a0, a1, a2, a3, q0, q1, q2, q3, q4, q5, q6, q7, q8, q9, _⟩ := hM.S
      have hE := Lib.hid (hM.later (Below.refl _ _).drew)
      clear hM
      have HIS2 : Hid (P ≠ 0 → ∀ W, Below w.heap.size w W → Calls Tryz.prog 14 #[.agg #[.int .i8 0, .int .i64 LO, .int .i8 0, .int .i64 HI], .int .u8 P] W fun r w' => r = .returned (.bool true) ∧ Below W.heap.size W w') := Lib.hid (fun h W hb => by
        rcases HHO.out with e | ⟨e1, e2, e3, _⟩
        · exact absurd e h
        · exact holdIs e3 W (HK.out.below hb).cal HBD.out.1 HBD.out.2.1 (by omega) (by omega))
      clear HHO HBD HK HG
      rcases pb with rfl | rfl | rfl | rfl
      · clear HIS2
        have HW := Lib.hid hE.out
        clear hE
        go_wp2_with fail
        first
        | go_region_with (go_at_call 32; refine (HOF2.out _).mono ?_; rintro _ w6 ⟨rfl, hb⟩; replace HW := Lib.hid (HW.out.later (by first | exact hb | exact bt (Below.refl _ _).drew hb)); clear hb; clear a0 a1 a2 a3 q0 q1 q2 q3 q4 q5 q6 q7 q8 q9; obtain ⟨a0, a1, a2, a3, q0, q1, q2, q3, q4, q5, q6, q7, q8, q9, _⟩ := HW.out.S)
        | fail
        all_goals (go_wp2_with fail)
        all_goals go_meet
        all_goals exact ⟨rfl, HW.out⟩
      all_goals
        replace HIS2 := Lib.hid (HIS2.out (by omega))
        go_wp2_with fail
        go_region_held3 (fun w' => w'.cell? ⟨gb, 0, none⟩ = some (.int .i8 0) ∧ w'.cell? ⟨gb, 1, none⟩ = some (.int .i64 LO) ∧ w'.cell? ⟨gb, 2, none⟩ = some (.int .i8 0) ∧ w'.cell? ⟨gb, 3, none⟩ = some (.int .i64 HI) ∧ w'.cell? ⟨ga, 0, none⟩ = some (.bool d.neg) ∧ w'.cell? ⟨ga, 1, none⟩ = some (.bool d.long) ∧ w'.cell? ⟨ga, 2, none⟩ = some (.string d.dg) ∧ w'.cell? ⟨ga, 3, none⟩ = some (.int .i64 d.ex) ∧ w'.cell? ⟨ga, 4, none⟩ = some (.int .i64 d.sig) ∧ w'.cell? ⟨ga, 5, none⟩ = some (.string d.mo) ∧ w'.cell? ⟨ga, 6, none⟩ = some (.string d.da) ∧ w'.cell? ⟨ga, 7, none⟩ = some (.int .u8 d.m0) ∧ w'.cell? ⟨ga, 8, none⟩ = some (.int .u8 d.m1) ∧ w'.cell? ⟨ga, 9, none⟩ = some (.int .u8 d.m2) ∧ Mw ga gb (lstD d) LO HI w w') (first | exact hE.out.S | exact (hE.out.later hb2).S | (have hk := ‹_ ∧ _ ∧ _ ∧ _ ∧ _ ∧ _ ∧ _ ∧ _ ∧ _ ∧ _ ∧ _ ∧ _ ∧ _ ∧ _ ∧ Mw _ _ _ _ _ _ _›; exact (hk.2.2.2.2.2.2.2.2.2.2.2.2.2.2.later hb2).S) | (have hk := ‹_ ∧ _ ∧ _ ∧ _ ∧ _ ∧ _ ∧ _ ∧ _ ∧ _ ∧ _ ∧ _ ∧ _ ∧ _ ∧ _ ∧ Mw _ _ _ _ _ _ _›; exact (hk.2.2.2.2.2.2.2.2.2.2.2.2.2.2.later (Below.refl _ _).drew).S) | assumption) ((first | (go_at_call 32; refine (HOF2.out _).mono ?_; rintro _ w6 ⟨rfl, hb2⟩) | (go_at_call 14; refine (HIS2.out _ (by first | exact hE.out.dd.below | (have hk := ‹_ ∧ _ ∧ _ ∧ _ ∧ _ ∧ _ ∧ _ ∧ _ ∧ _ ∧ _ ∧ _ ∧ _ ∧ _ ∧ _ ∧ Mw _ _ _ _ _ _ _›; first | exact hk.2.2.2.2.2.2.2.2.2.2.2.2.2.2.dd.below | exact hk.2.2.2.2.2.2.2.2.2.2.2.2.2.2.dd.below.drew))).mono ?_; rintro _ w7 ⟨rfl, hb2⟩)))
        rename_i hk
        have hF := Lib.hid hk.2.2.2.2.2.2.2.2.2.2.2.2.2.2
        clear hk
        go_wp2_with fail
        go_meet
        exact ⟨rfl, hF.out⟩
    case rest =>
    obtain ⟨rfl, hM⟩ := hcut
    clear HOF2
    have HM := Lib.hid hM
    clear hM
    by_cases hp0 : P = 0
    · subst hp0
      clear HHO HBD pb
      as_aux_lemma =>
        go_wp2_with (go_at_call 10; refine (HL.out _ HM.out.dd.below).mono ?_; rintro _ w9 ⟨rfl, hb⟩; replace HM := Lib.hid (HM.out.later (by first | exact hb | exact bt (Below.refl _ _).drew hb | exact bt (Below.refl _ _).drew.drew hb | exact bt (Below.refl _ _).drew.drew.drew hb)); clear hb)
        go_ret
        exact ⟨rfl, HM.out.dd.below⟩
    have HH2 : Hid (∀ W, Below w.heap.size w W → Calls Tryz.prog 8 #[.int .i64 HI, .int .u8 P] W fun r w' => r = .returned (.tuple #[.agg #[.int .i8 0, .int .i64 LO, .int .i8 0, .int .i64 HI], .int .i64 0]) ∧ Below W.heap.size W w') := Lib.hid (fun W hb => by
      rcases HHO.out with e | ⟨e1, e2, _, e4⟩
      · exact absurd e hp0
      · exact holdAt e4 W (HK.out.below hb).cal HBD.out.2.2.1 HBD.out.2.2.2 (by omega) (by omega))
    have hp1 : 0 < P := by omega
    clear HHO HBD HK HG hp0 pb
    have a3 := HM.out.aa.cell 3 _ rfl
    go_upto_region 10 with (fail)
    go_cut [10, 11] (fun s10 s11 wx => ∃ gc, s10 = .pointer (some ⟨gc, 0, none⟩) ∧ s11 = .int .i64 0 ∧ Rw gc (lstR LO HI) w wx ∧ Mw ga gb (lstD d) LO HI w wx)
    case first =>
      clear HL
      go_wp2_with (go_at_call 8; refine (HH2.out _ HM.out.dd.below).mono ?_; rintro _ w2 ⟨rfl, hb⟩)
      go_meet
      exact ⟨_, rfl, rfl, Rw.fresh (bt HM.out.dd.below hb) (lstR LO HI) 26, (HM.out.later hb).later (ba (Below.refl _ _) _)⟩
    case rest =>
    obtain ⟨gc, rfl, rfl, hC, hM⟩ := hcut
    clear HM a3 HH2
    have b0 := hC.cell 0 _ rfl; have b1 := hC.cell 1 _ rfl; have b2 := hC.cell 2 _ rfl; have b3 := hC.cell 3 _ rfl
    have a0 := hM.aa.cell 0 _ rfl; have a1 := hM.aa.cell 1 _ rfl; have a2 := hM.aa.cell 2 _ rfl; have a3 := hM.aa.cell 3 _ rfl
    have HM := Lib.hid hM
    clear hM hC
    as_aux_lemma =>
      go_wp2_with (go_at_call 10; refine (HL.out _ HM.out.dd.below).mono ?_; rintro _ w9 ⟨rfl, hb⟩; replace HM := Lib.hid (HM.out.later (by first | exact hb | exact bt (Below.refl _ _).drew hb | exact bt (Below.refl _ _).drew.drew hb | exact bt (Below.refl _ _).drew.drew.drew hb)); clear hb)
      go_ret
      exact ⟨rfl, HM.out.dd.below⟩
  case false =>
    clear HO HOF HB
    have q0 : World.cell? _ ⟨ga, 0, none⟩ = some (.bool d.neg) := HR.out.cell 0 _ rfl; have q1 : World.cell? _ ⟨ga, 1, none⟩ = some (.bool d.long) := HR.out.cell 1 _ rfl; have q2 : World.cell? _ ⟨ga, 2, none⟩ = some (.string d.dg) := HR.out.cell 2 _ rfl; have q3 : World.cell? _ ⟨ga, 3, none⟩ = some (.int .i64 d.ex) := HR.out.cell 3 _ rfl; have q4 : World.cell? _ ⟨ga, 4, none⟩ = some (.int .i64 d.sig) := HR.out.cell 4 _ rfl; have q5 : World.cell? _ ⟨ga, 5, none⟩ = some (.string d.mo) := HR.out.cell 5 _ rfl; have q6 : World.cell? _ ⟨ga, 6, none⟩ = some (.string d.da) := HR.out.cell 6 _ rfl; have q7 : World.cell? _ ⟨ga, 7, none⟩ = some (.int .u8 d.m0) := HR.out.cell 7 _ rfl; have q8 : World.cell? _ ⟨ga, 8, none⟩ = some (.int .u8 d.m1) := HR.out.cell 8 _ rfl; have q9 : World.cell? _ ⟨ga, 9, none⟩ = some (.int .u8 d.m2) := HR.out.cell 9 _ rfl
    by_cases hs : 0 < d.sig
    · clear HFI HALL HUN HG HE HFM HPP HK
      as_aux_lemma =>
        go_wp2_with (go_at_call 10; refine (HL.out _ HR.out.below).mono ?_; rintro _ w9 ⟨rfl, hb⟩; replace HR := Lib.hid (HR.out.later (by first | exact hb | exact bt (Below.refl _ _).drew hb | exact bt (Below.refl _ _).drew.drew hb | exact bt (Below.refl _ _).drew.drew.drew hb)); clear hb)
        go_ret
        exact ⟨rfl, HR.out.below⟩
    have HS : Hid (d.sig ≤ 0) := Lib.hid (by omega)
    have HALL2 := Lib.hid (fun W => HALL.out W HS.out)
    clear HALL
    go_upto_region 15 with (fail)
    go_cut [12] (fun s wx => ∃ (L : List (Int × Int × Int)) (bs : Option Addr) (cp : Nat), s = .slice bs L.length cp ∧ L ≠ [] ∧ (∀ p, p ∈ L → d.Fill p.1 p.2.1 p.2.2) ∧ (∀ i (h : i < L.length), ∃ g, bs = some ⟨g, 0, none⟩ ∧ wx.cell? ⟨g, i * 3, none⟩ = some (.int .i64 (L[i]'h).1) ∧ wx.cell? ⟨g, i * 3 + 1, none⟩ = some (.int .i64 (L[i]'h).2.1) ∧ wx.cell? ⟨g, i * 3 + 2, none⟩ = some (.int .i64 (L[i]'h).2.2)) ∧ Rw ga (lstD d) w wx)
    case first =>
      clear HL HFI HUN
      go_wp2_with (go_at_call 35; refine (HALL2.out _).mono ?_; rintro _ w2 ⟨v, L, rfl, hown, hF, hne, hb⟩; have HO := Lib.hid hown; have HF := Lib.hid hF; have HNE := Lib.hid (hne HG.out.fill); clear hown hF hne)
      go_meet
      have hown := HO.out
      rcases hown.2 with ⟨rfl, h0⟩ | ⟨g, cap, cur, rfl, _⟩
      · exact absurd (List.length_eq_zero_iff.1 h0) HNE.out
      · refine ⟨L, _, _, rfl, HNE.out, HF.out, fun i h => ⟨g, rfl, ?_⟩, HR.out.later hb⟩
        have h3 := flat3_get L i h
        rw [Nat.mul_comm i 3]
        rw [hown.cellAt (3 * i) (by omega), hown.cellAt (3 * i + 1) (by omega), hown.cellAt (3 * i + 2) (by omega)]
        exact h3
    case rest =>
    obtain ⟨L, bs, cp, rfl, hne, hF, hcl, hR⟩ := hcut
    have hN0 : 0 < L.length := List.length_pos_iff.2 hne
    have hin : nn % L.length < L.length := Nat.mod_lt _ hN0
    obtain ⟨g, rfl, c0, c1, c2⟩ := hcl _ hin
    have hfl := hF _ (List.getElem_mem hin)
    have HX : ∃ y m k, y = (L[nn % L.length]'hin).1 ∧ m = (L[nn % L.length]'hin).2.1 ∧ k = (L[nn % L.length]'hin).2.2 := ⟨_, _, _, rfl, rfl, rfl⟩
    obtain ⟨y, m, k, e0, e1, e2⟩ := HX
    rw [← e0] at c0 hfl
    rw [← e1] at c1 hfl
    rw [← e2] at c2 hfl
    replace HR := Lib.hid hR
    have HFL := Lib.hid hfl
    clear q0 q1 q2 q3 q4 q5 q6 q7 q8 q9
    clear hne hF hcl hfl e0 e1 e2 hR HALL2
    generalize L.length = N at *
    clear L
    go_upto_region 18 with (fail)
    go_cut [13] (fun s wx => ∃ gd, s = .pointer (some ⟨gd, 0, none⟩) ∧ Rw gd (lstC y m k) w wx ∧ Rw ga (lstD d) w wx)
    case first =>
      clear HL HFI HUN
      have hnz : ((N : Int) == 0) = false := by rw [beq_eq_false_iff_ne]; omega
      go_wp2
      go_meet
      exact ⟨_, rfl, Rw.fresh HR.out.below (lstC y m k) 56, HR.out.later (ba (Below.refl _ _) _)⟩
    case rest =>
    obtain ⟨gd, rfl, hC, hR⟩ := hcut
    have hfl := HFL.out
    have hnu := Dt.fill_nums HFM.out hfl
    have hho := hnu.hold
    have hbd := hnu.bd
    have hof := Dt.fill_of HFM.out hfl
    have hhs := Dt.fill_has HE.out HS.out hfl
    rw [← HPP.out] at hho
    have HUN2 := Lib.hid (fun W => HUN.out y m k W hnu.y0 hnu.y1 hnu.mo hnu.da)
    have y0 := hnu.y0; have y1 := hnu.y1
    obtain ⟨LO, hLO⟩ : ∃ x, x = unitLo y m k := ⟨_, rfl⟩
    obtain ⟨HI, hHI⟩ : ∃ x, x = unitHi y m k := ⟨_, rfl⟩
    have HF2 : Hid (∀ W, Below w.heap.size w W → Calls Tryz.prog 28 #[.agg (lstD d).toArray, .agg #[.int .i64 y, .int .i64 m, .int .i64 k]] W fun r w' => r = .returned (.tuple #[.agg #[.int .i8 0, .int .i64 LO, .int .i8 0, .int .i64 HI], .int .i64 0]) ∧ Below W.heap.size W w') := Lib.hid (fun W hb => by
      refine (HFI.out y m k W hb (by omega) (by omega)).mono ?_
      rintro e w' ⟨lo, hi, er, hfr, rfl, hb⟩
      rcases hfr with ⟨h, _⟩ | ⟨_, h, _⟩ | ⟨_, _, _, e1, e2, e3⟩
      · exact absurd HE.out h
      · exact absurd ⟨HS.out, hhs⟩ h
      · rw [hof.1, hof.2] at e2 e3
        rw [e1, e2, e3, hLO, hHI]
        exact ⟨rfl, hb⟩)
    rw [← hLO, ← hHI] at hho hbd HUN2
    have HHO := Lib.hid hho
    have HBD := Lib.hid hbd
    replace HR := Lib.hid hR
    have HC := Lib.hid hC
    clear hfl hnu hho hbd hof hhs y0 y1 hLO hHI hC hR HFI HUN HFL HE HFM HPP HG HS
    clear c0 c1 c2 hin hN0
    go_upto_region 19 with (fail)
    go_cut [14, 15] (fun s14 s15 wx => ∃ gb, s14 = .pointer (some ⟨gb, 0, none⟩) ∧ s15 = .int .i64 0 ∧ Mw gd gb (lstC y m k) LO HI w wx)
    case first =>
      clear HL HUN2 HHO HBD
      have q0 : World.cell? _ ⟨ga, 0, none⟩ = some (.bool d.neg) := HR.out.cell 0 _ rfl; have q1 : World.cell? _ ⟨ga, 1, none⟩ = some (.bool d.long) := HR.out.cell 1 _ rfl; have q2 : World.cell? _ ⟨ga, 2, none⟩ = some (.string d.dg) := HR.out.cell 2 _ rfl; have q3 : World.cell? _ ⟨ga, 3, none⟩ = some (.int .i64 d.ex) := HR.out.cell 3 _ rfl; have q4 : World.cell? _ ⟨ga, 4, none⟩ = some (.int .i64 d.sig) := HR.out.cell 4 _ rfl; have q5 : World.cell? _ ⟨ga, 5, none⟩ = some (.string d.mo) := HR.out.cell 5 _ rfl; have q6 : World.cell? _ ⟨ga, 6, none⟩ = some (.string d.da) := HR.out.cell 6 _ rfl; have q7 : World.cell? _ ⟨ga, 7, none⟩ = some (.int .u8 d.m0) := HR.out.cell 7 _ rfl; have q8 : World.cell? _ ⟨ga, 8, none⟩ = some (.int .u8 d.m1) := HR.out.cell 8 _ rfl; have q9 : World.cell? _ ⟨ga, 9, none⟩ = some (.int .u8 d.m2) := HR.out.cell 9 _ rfl
      have e0 := HC.out.cell 0 _ rfl; have e1 := HC.out.cell 1 _ rfl; have e2 := HC.out.cell 2 _ rfl
      go_wp2_with (go_at_call 28; refine (HF2.out _ HR.out.below).mono ?_; rintro _ w2 ⟨rfl, hb⟩)
      go_meet
      exact ⟨_, rfl, rfl, (HC.out.later hb).later (ba (Below.refl _ _) _), Rw.fresh (bt HR.out.below hb) (lstR LO HI) 26⟩
    case rest =>
    obtain ⟨gb, rfl, rfl, hM⟩ := hcut
    clear HF2 HR HC
    obtain ⟨a0, a1, a2, a3, e0, e1, e2, _⟩ := hM.S2
    have hE := Lib.hid (hM.later (Below.refl _ _).drew)
    clear hM
    have HIS2 : Hid (P ≠ 0 → ∀ W, Below w.heap.size w W → Calls Tryz.prog 14 #[.agg #[.int .i8 0, .int .i64 LO, .int .i8 0, .int .i64 HI], .int .u8 P] W fun r w' => r = .returned (.bool true) ∧ Below W.heap.size W w') := Lib.hid (fun h W hb => by
      rcases HHO.out with e | ⟨e1, e2, e3, _⟩
      · exact absurd e h
      · exact holdIs e3 W (HK.out.below hb).cal HBD.out.1 HBD.out.2.1 (by omega) (by omega))
    clear HHO HBD HK
    rcases pb with rfl | rfl | rfl | rfl
    · clear HIS2
      have HW := Lib.hid hE.out
      clear hE
      go_wp2_with fail
      refine wp_region_held_drew (S := fun w' => w'.cell? ⟨gb, 0, none⟩ = some (.int .i8 0) ∧ w'.cell? ⟨gb, 1, none⟩ = some (.int .i64 LO) ∧ w'.cell? ⟨gb, 2, none⟩ = some (.int .i8 0) ∧ w'.cell? ⟨gb, 3, none⟩ = some (.int .i64 HI) ∧ w'.cell? ⟨gd, 0, none⟩ = some (.int .i64 y) ∧ w'.cell? ⟨gd, 1, none⟩ = some (.int .i64 m) ∧ w'.cell? ⟨gd, 2, none⟩ = some (.int .i64 k) ∧ Mw gd gb (lstC y m k) LO HI w w') (by kernel_rfl) HW.out.S2 (fun hHeld => ?_)
      refine takeAt 0 96 (v := ?_) rfl rfl (by kernel_rfl) (by kernel_rfl) (by kernel_rfl) (fun _ _ _ h => h) (Or.inl ⟨by rfl, ?_⟩) (by assumption) ?_
      rotate_left
      · (intro w hSw; (try dsimp only at hSw); go_simp; try with_reducible rfl)
      try simp only [Act.put, List.setIfInBounds_toArray, List.set_cons_zero, List.set_cons_succ]
      refine takeAt 1 97 (v := ?_) rfl rfl (by kernel_rfl) (by kernel_rfl) (by kernel_rfl) (fun _ _ _ h => h) (Or.inl ⟨by rfl, ?_⟩) (by assumption) ?_
      rotate_left
      · (intro w hSw; (try dsimp only at hSw); go_simp; try with_reducible rfl)
      try simp only [Act.put, List.setIfInBounds_toArray, List.set_cons_zero, List.set_cons_succ]
      refine takeAt 2 98 (v := ?_) rfl rfl (by kernel_rfl) (by kernel_rfl) (by kernel_rfl) (fun _ _ _ h => h) (Or.inl ⟨by rfl, ?_⟩) (by assumption) ?_
      rotate_left
      · (intro w hSw; (try dsimp only at hSw); go_simp; try with_reducible rfl)
      try simp only [Act.put, List.setIfInBounds_toArray, List.set_cons_zero, List.set_cons_succ]
      refine takeAt 3 99 (v := ?_) rfl rfl (by kernel_rfl) (by kernel_rfl) (by kernel_rfl) (fun _ _ _ h => h) (Or.inl ⟨by rfl, ?_⟩) (by assumption) ?_
      rotate_left
      · (intro w hSw; (try dsimp only at hSw); go_simp; try with_reducible rfl)
      try simp only [Act.put, List.setIfInBounds_toArray, List.set_cons_zero, List.set_cons_succ]
      refine takeAt 4 100 (v := ?_) rfl rfl (by kernel_rfl) (by kernel_rfl) (by kernel_rfl) (fun _ _ _ h => h) (Or.inl ⟨by rfl, ?_⟩) (by assumption) ?_
      rotate_left
      · (intro w hSw; (try dsimp only at hSw); go_simp; try with_reducible rfl)
      try simp only [Act.put, List.setIfInBounds_toArray, List.set_cons_zero, List.set_cons_succ]
      refine takeAt 5 101 (v := ?_) rfl rfl (by kernel_rfl) (by kernel_rfl) (by kernel_rfl) (fun _ _ _ h => h) (Or.inl ⟨by rfl, ?_⟩) (by assumption) ?_
      rotate_left
      · (intro w hSw; (try dsimp only at hSw); go_simp; try with_reducible rfl)
      try simp only [Act.put, List.setIfInBounds_toArray, List.set_cons_zero, List.set_cons_succ]
      refine takeAt 6 102 (v := ?_) rfl rfl (by kernel_rfl) (by kernel_rfl) (by kernel_rfl) (fun _ _ _ h => h) (Or.inl ⟨by rfl, ?_⟩) (by assumption) ?_
      rotate_left
      · (intro w hSw; (try dsimp only at hSw); go_simp; try with_reducible rfl)
      try simp only [Act.put, List.setIfInBounds_toArray, List.set_cons_zero, List.set_cons_succ]
      refine takeAt 7 103 (v := ?_) rfl rfl (by kernel_rfl) (by kernel_rfl) (by kernel_rfl) (fun _ _ _ h => h) (Or.inl ⟨by rfl, ?_⟩) (by assumption) ?_
      rotate_left
      · (intro w hSw; (try dsimp only at hSw); go_simp; try with_reducible rfl)
      try simp only [Act.put, List.setIfInBounds_toArray, List.set_cons_zero, List.set_cons_succ]
      refine takeAt 8 104 (v := ?_) rfl rfl (by kernel_rfl) (by kernel_rfl) (by kernel_rfl) (fun _ _ _ h => h) (Or.inl ⟨by rfl, ?_⟩) (by assumption) ?_
      rotate_left
      · (intro w hSw; (try dsimp only at hSw); go_simp; try with_reducible rfl)
      try simp only [Act.put, List.setIfInBounds_toArray, List.set_cons_zero, List.set_cons_succ]
      refine takeAt 9 105 (v := ?_) rfl rfl (by kernel_rfl) (by kernel_rfl) (by kernel_rfl) (fun _ _ _ h => h) (Or.inl ⟨by rfl, ?_⟩) (by assumption) ?_
      rotate_left
      · (intro w hSw; (try dsimp only at hSw); go_simp; try with_reducible rfl)
      try simp only [Act.put, List.setIfInBounds_toArray, List.set_cons_zero, List.set_cons_succ]
      refine wpAnyH_ready (rs := [10]) (by kernel_rfl) (by simp) ?_
      refine AllReadyH.cons rfl (fun K hK => ?_) AllReadyH.nil
      simp only [List.getElem_toArray, List.getElem_cons_succ, List.getElem_cons_zero]
      go_simp
      go_at_call 21
      refine (HUN2.out _).mono ?_; rintro _ w6 ⟨rfl, hb2⟩
      replace HW := Lib.hid (HW.out.later hb2)
      clear hb2
      refine hK.out _ _ HW.out.S2 (fun hHeld => ?_)
      clear hK K
      try simp only [Act.put, List.setIfInBounds_toArray, List.set_cons_zero, List.set_cons_succ]
      refine takeAt 11 107 (v := ?_) rfl rfl (by kernel_rfl) (by kernel_rfl) (by kernel_rfl) (fun _ _ _ h => h) (Or.inl ⟨by rfl, ?_⟩) (by assumption) ?_
      rotate_left
      · (intro w hSw; (try dsimp only at hSw); go_simp; try with_reducible rfl)
      try simp only [Act.put, List.setIfInBounds_toArray, List.set_cons_zero, List.set_cons_succ]
      refine takeAt 12 108 (v := ?_) rfl rfl (by kernel_rfl) (by kernel_rfl) (by kernel_rfl) (fun _ _ _ h => h) (Or.inl ⟨by rfl, ?_⟩) (by assumption) ?_
      rotate_left
      · (intro w hSw; (try dsimp only at hSw); go_simp; try with_reducible rfl)
      try simp only [Act.put, List.setIfInBounds_toArray, List.set_cons_zero, List.set_cons_succ]
      refine takeAt 13 109 (v := ?_) rfl rfl (by kernel_rfl) (by kernel_rfl) (by kernel_rfl) (fun _ _ _ h => h) (Or.inl ⟨by rfl, ?_⟩) (by assumption) ?_
      rotate_left
      · (intro w hSw; (try dsimp only at hSw); go_simp; try with_reducible rfl)
      try simp only [Act.put, List.setIfInBounds_toArray, List.set_cons_zero, List.set_cons_succ]
      refine takeAt 14 110 (v := ?_) rfl rfl (by kernel_rfl) (by kernel_rfl) (by kernel_rfl) (fun _ _ _ h => h) (Or.inl ⟨by rfl, ?_⟩) (by assumption) ?_
      rotate_left
      · (intro w hSw; (try dsimp only at hSw); go_simp; try with_reducible rfl)
      try simp only [Act.put, List.setIfInBounds_toArray, List.set_cons_zero, List.set_cons_succ]
      refine takeAt 15 111 (v := ?_) rfl rfl (by kernel_rfl) (by kernel_rfl) (by kernel_rfl) (fun _ _ _ h => h) (Or.inl ⟨by rfl, ?_⟩) (by assumption) ?_
      rotate_left
      · (intro w hSw; (try dsimp only at hSw); go_simp; try with_reducible rfl)
      try simp only [Act.put, List.setIfInBounds_toArray, List.set_cons_zero, List.set_cons_succ]
      refine takeAt 16 112 (v := ?_) rfl rfl (by kernel_rfl) (by kernel_rfl) (by kernel_rfl) (fun _ _ _ h => h) (Or.inl ⟨by rfl, ?_⟩) (by assumption) ?_
      rotate_left
      · (intro w hSw; (try dsimp only at hSw); go_simp; try with_reducible rfl)
      try simp only [Act.put, List.setIfInBounds_toArray, List.set_cons_zero, List.set_cons_succ]
      refine takeAt 17 113 (v := undef) rfl rfl (by kernel_rfl) (by kernel_rfl) (by kernel_rfl) (fun _ _ _ h => h) (Or.inr ⟨by rfl, rfl⟩) (by assumption) ?_
      try simp only [Act.put, List.setIfInBounds_toArray, List.set_cons_zero, List.set_cons_succ]
      refine takeAt 18 114 (v := undef) rfl rfl (by kernel_rfl) (by kernel_rfl) (by kernel_rfl) (fun _ _ _ h => h) (Or.inr ⟨by rfl, rfl⟩) (by assumption) ?_
      try simp only [Act.put, List.setIfInBounds_toArray, List.set_cons_zero, List.set_cons_succ]
      refine takeAt 19 115 (v := undef) rfl rfl (by kernel_rfl) (by kernel_rfl) (by kernel_rfl) (fun _ _ _ h => h) (Or.inr ⟨by rfl, rfl⟩) (by assumption) ?_
      try simp only [Act.put, List.setIfInBounds_toArray, List.set_cons_zero, List.set_cons_succ]
      refine takeAt 20 116 (v := ?_) rfl rfl (by kernel_rfl) (by kernel_rfl) (by kernel_rfl) (fun _ _ _ h => h) (Or.inl ⟨by rfl, ?_⟩) (by assumption) ?_
      rotate_left
      · (intro w hSw; (try dsimp only at hSw); go_simp; try with_reducible rfl)
      try simp only [Act.put, List.setIfInBounds_toArray, List.set_cons_zero, List.set_cons_succ]
      refine takeAt 21 117 (v := ?_) rfl rfl (by kernel_rfl) (by kernel_rfl) (by kernel_rfl) (fun _ _ _ h => h) (Or.inl ⟨by rfl, ?_⟩) (by assumption) ?_
      rotate_left
      · (intro w hSw; (try dsimp only at hSw); go_simp; try with_reducible rfl)
      try simp only [Act.put, List.setIfInBounds_toArray, List.set_cons_zero, List.set_cons_succ]
      refine takeAt 22 118 (v := ?_) rfl rfl (by kernel_rfl) (by kernel_rfl) (by kernel_rfl) (fun _ _ _ h => h) (Or.inl ⟨by rfl, ?_⟩) (by assumption) ?_
      rotate_left
      · (intro w hSw; (try dsimp only at hSw); go_simp; try with_reducible rfl)
      try simp only [Act.put, List.setIfInBounds_toArray, List.set_cons_zero, List.set_cons_succ]
      refine wpAnyH_ready (rs := [23]) (by kernel_rfl) (by simp) ?_
      refine AllReadyH.cons rfl (fun K hK => ?_) AllReadyH.nil
      simp only [List.getElem_toArray, List.getElem_cons_succ, List.getElem_cons_zero]
      go_simp
      go_at_call 10
      refine (HL.out _ HW.out.dd.below).mono ?_; rintro _ w6 ⟨rfl, hb2⟩
      replace HW := Lib.hid (HW.out.later hb2)
      clear hb2
      refine hK.out _ _ HW.out.S2 (fun hHeld => ?_)
      clear hK K
      try simp only [Act.put, List.setIfInBounds_toArray, List.set_cons_zero, List.set_cons_succ]
      refine takeAt 24 120 (v := ?_) rfl rfl (by kernel_rfl) (by kernel_rfl) (by kernel_rfl) (fun _ _ _ h => h) (Or.inl ⟨by rfl, ?_⟩) (by assumption) ?_
      rotate_left
      · (intro w hSw; (try dsimp only at hSw); go_simp; try with_reducible rfl)
      try simp only [Act.put, List.setIfInBounds_toArray, List.set_cons_zero, List.set_cons_succ]
      refine takeAt 25 4 (v := ?_) rfl rfl (by kernel_rfl) (by kernel_rfl) (by kernel_rfl) (fun _ _ _ h => h) (Or.inl ⟨by rfl, ?_⟩) (by assumption) ?_
      rotate_left
      · (intro w hSw; (try dsimp only at hSw); go_simp; try with_reducible rfl)
      try simp only [Act.put, List.setIfInBounds_toArray, List.set_cons_zero, List.set_cons_succ]
      refine wpAnyH_done (by kernel_rfl) ?_ _
      go_wp2_with fail
      go_ret
      exact ⟨rfl, HW.out.dd.below⟩
    all_goals
      replace HIS2 := Lib.hid (HIS2.out (by omega))
      go_wp2_with fail
      go_region_held3 (fun w' => w'.cell? ⟨gb, 0, none⟩ = some (.int .i8 0) ∧ w'.cell? ⟨gb, 1, none⟩ = some (.int .i64 LO) ∧ w'.cell? ⟨gb, 2, none⟩ = some (.int .i8 0) ∧ w'.cell? ⟨gb, 3, none⟩ = some (.int .i64 HI) ∧ w'.cell? ⟨gd, 0, none⟩ = some (.int .i64 y) ∧ w'.cell? ⟨gd, 1, none⟩ = some (.int .i64 m) ∧ w'.cell? ⟨gd, 2, none⟩ = some (.int .i64 k) ∧ Mw gd gb (lstC y m k) LO HI w w') (first | exact hE.out.S2 | exact (hE.out.later hb2).S2 | (have hk := ‹_ ∧ _ ∧ _ ∧ _ ∧ _ ∧ _ ∧ _ ∧ Mw _ _ _ _ _ _ _›; exact (hk.2.2.2.2.2.2.2.later hb2).S2) | (have hk := ‹_ ∧ _ ∧ _ ∧ _ ∧ _ ∧ _ ∧ _ ∧ Mw _ _ _ _ _ _ _›; exact (hk.2.2.2.2.2.2.2.later (Below.refl _ _).drew).S2) | assumption) ((first | (go_at_call 21; refine (HUN2.out _).mono ?_; rintro _ w6 ⟨rfl, hb2⟩) | (go_at_call 14; refine (HIS2.out _ (by first | exact hE.out.dd.below | (have hk := ‹_ ∧ _ ∧ _ ∧ _ ∧ _ ∧ _ ∧ _ ∧ Mw _ _ _ _ _ _ _›; first | exact hk.2.2.2.2.2.2.2.dd.below | exact hk.2.2.2.2.2.2.2.dd.below.drew))).mono ?_; rintro _ w7 ⟨rfl, hb2⟩) | (go_at_call 10; refine (HL.out _ (by first | exact hE.out.dd.below | (have hk := ‹_ ∧ _ ∧ _ ∧ _ ∧ _ ∧ _ ∧ _ ∧ Mw _ _ _ _ _ _ _›; first | exact hk.2.2.2.2.2.2.2.dd.below | exact hk.2.2.2.2.2.2.2.dd.below.drew))).mono ?_; rintro _ w7 ⟨rfl, hb2⟩)))
      rename_i hk
      have hF := Lib.hid hk.2.2.2.2.2.2.2
      clear hk
      go_wp2_with fail
      go_ret
      exact ⟨rfl, hF.out.dd.below⟩
end Bk
end Go.Proofs.YtipjmaimjchckaaGreatDoor

