/- What stands behind the loops of the law UnitsKnown: run by the evaluator, with entries at hand. -/
import Derived.Test.YtipjmaimjchckaaGreatDoorMT
import Derived.Test.YtipjmaimjchckaaGreatDoorMJ
/-! What stands behind the loops of the law UnitsKnown: run by the evaluator, with entries at hand. -/
set_option linter.unusedSimpArgs false
set_option linter.unusedVariables false
set_option maxRecDepth 1000000
namespace Go.Proofs.YtipjmaimjchckaaGreatDoor
open Go.RowKit
namespace Ev
theorem bodyPost_mono {P : Program} {fn : Func} {R R' : Ending → World → Prop} (h : ∀ r w, R r w → R' r w) (e : Exit) (a : Act) (w : World) (hb : bodyPost P fn R e a w) : bodyPost P fn R' e a w := by
  cases e with
  | normal => obtain ⟨hd, v, h1, h2⟩ := hb; exact ⟨hd, v, h1, h _ _ h2⟩
  | ret => obtain ⟨hd, v, h1, h2⟩ := hb; exact ⟨hd, v, h1, h _ _ h2⟩
  | panic c => exact ⟨hb.1, h _ _ hb.2⟩
  | outgrown => exact h _ _ hb
  | _ => exact hb.elim
noncomputable def kRest : Code :=
  match Tryz.f5.body with
  | some (.seq _ (.seq _ r)) => r
  | _ => .skip
noncomputable def exN (e : Ex) : Nat := Ex.rec (motive := fun _ => Nat) 0 (fun _ => 1) 2 e
noncomputable def cx0 : Cx := ⟨tbu.g, tbu.l, tbu.l, []⟩
noncomputable def restR : Option (Nat × Bool × AV) :=
  ob (code tbu (callM tbu msEnK7 100) cx0 Tryz.f5.ntmps fuel kRest ⟨nilA, ⟨hp, tbu.l⟩, []⟩) (fun p => ob (resultsA tbu Tryz.f5 p.2.t cx0 p.2.s) (fun v => some (exN p.1, isNil p.2.d, v)))
theorem rest_run : restR = some (2, true, .v (.bool true)) := by kernel_rfl
theorem rest_wp {w0 W : World} (hl : laidMet Tryz.prog Rows.unitsKnownRow.laid w0) (hw : Below w0.heap.size w0 W) (a : Act) (hsz : a.tmps.size = Tryz.f5.ntmps) (hd : a.defers = []) :
    kRest.wp Tryz.prog (bodyPost Tryz.prog Tryz.f5 fun r w' => r = .returned (.bool true) ∧ Below W.heap.size W w') a W := by
  obtain ⟨p, h1, h2⟩ := ob_some.1 rest_run
  obtain ⟨v, h3, h4⟩ := ob_some.1 h2
  obtain ⟨e, st'⟩ := p
  have h4 : (exN e, isNil st'.d, v) = (2, true, AV.v (.bool true)) := Option.some.inj h4
  simp only [Prod.mk.injEq] at h4
  obtain ⟨he, hdn, rfl⟩ := h4
  have he' : e = .ret := by
    cases e with
    | normal => exact absurd he (by decide)
    | exit i => exact absurd (show (1 : Nat) = 2 from he) (by decide)
    | ret => rfl
  subst he'
  obtain ⟨ρ, hs⟩ := startOk (tb := tbu) hl lay_ok hp_eq W hw
  refine (@code_sound G0 w0 tbu (callM tbu msEnK7 100) cx0 _ (tbu_ok w0) (callM_ok (tbu_ok w0) (msEnK7_ok hl) (startOk hl lay_ok hp_eq) 100) (callM_fr 100) rfl rfl fuel).1 kRest _ _ _ h1 ρ W a _ hs (@SatT.mk G0 _ _ _ _ _ hsz (fun i v h => absurd h (by rw [getA_nil]; intro h; cases h))) (by rw [hd]; exact True.intro) ?_
  intro ρ' w' a' T t d
  have hr := @results_sound G0 _ _ _ _ _ _ _ _ _ (tbu_ok w0) (@Stp.sat G0 _ _ _ _ _ _ _ _ T) t _ _ h3
  have fr := @Stp.fr G0 _ _ _ _ _ _ _ _ T
  refine bodyPost_ret hr.1 ?_ ⟨rfl, fr.os, fr.tape, fr.output, fr.size, fun r hr => fr.block r hr (fun b o h3 h4 => absurd h3 (Nat.not_le.2 (@SatH.lt G0 _ _ _ _ _ hs b o h4)))⟩
  cases hx : st'.d with
  | nil =>
    rw [hx] at d
    cases hy : a'.defers with
    | nil => rfl
    | cons x l => rw [hy] at d; exact d.elim
  | cons x l => rw [hx] at hdn; cases hdn
end Ev
end Go.Proofs.YtipjmaimjchckaaGreatDoor

/-! What the law UnitsKnown asks of months and years: the unit behind each; cells of runs in later worlds. -/
set_option linter.unusedSimpArgs false
set_option linter.unusedVariables false
namespace Go.Proofs.YtipjmaimjchckaaGreatDoor
open Go.RowKit
namespace Un
open Cal

theorem beside_unit {p j x y nx ny : Int} (hp : 1 ≤ p ∧ p ≤ 2) (h : atC p j = (x, y, 0)) (h2 : atC p (j + 1) = (nx, ny, 0)) : besideC p 0 x 0 y 1 9223372036854775807 = (nx, ny, 0) := by
  have hp' : ¬ (p < 1 ∨ 3 < p) := by omega
  have u := at_unit (show 1 ≤ p ∧ p ≤ 3 by omega) h
  unfold besideC
  rw [if_neg hp', if_pos (isC_unit u.1), if_neg (by omega), u.2.1]
  exact h2
theorem at_year (Y : Int) (h0 : -10000000000000000 ≤ Y) (h1 : Y ≤ 10000000000000000) : atC 1 Y = (st Y, st (Y + 1) - 1, 0) := by
  unfold atC; rw [if_neg (by omega), if_neg (by omega), if_pos rfl, if_pos ⟨h0, h1⟩]
theorem at_month (Y m : Int) (h0 : -10000000000000000 ≤ Y) (h1 : Y ≤ 10000000000000000) (m0 : 1 ≤ m) (m1 : m ≤ 12) : atC 2 (12 * Y + m - 1) = (st Y + cum Y m, st Y + cum Y (m + 1) - 1, 0) := by
  unfold atC monthC
  rw [if_neg (by omega), if_neg (by omega), if_neg (by omega), show (12 * Y + m - 1) / 12 = Y by omega, show (12 * Y + m - 1) % 12 = m - 1 by omega, if_pos ⟨h0, h1⟩, show m - 1 + 1 = m by omega, show m - 1 + 2 = m + 1 by omega]

theorem next_year (Y : Int) (w : World) (hs : CalOk w) (h0 : -1000 ≤ Y) (h1 : Y ≤ 9999999999999999) :
    Calls Tryz.prog 15 #[rv 0 (st Y) 0 (st (Y + 1) - 1), .int .u8 1] w fun r w' => r = .returned (.tuple #[rv 0 (st (Y + 1)) 0 (st (Y + 1 + 1) - 1), .int .i64 0]) ∧ Below w.heap.size w w' := by
  have b := st_bd2 (y := Y) (by omega) (by omega)
  have h := next_any 1 0 (st Y) 0 (st (Y + 1) - 1) w hs (by omega) (by omega) (by omega) (by omega)
  rw [beside_unit (j := Y) (by omega) (at_year Y (by omega) (by omega)) (at_year (Y + 1) (by omega) (by omega))] at h
  exact h
theorem next_month (Y m : Int) (w : World) (hs : CalOk w) (h0 : -1000 ≤ Y) (h1 : Y ≤ 9999999999999999) (m0 : 1 ≤ m) (m1 : m ≤ 11) :
    Calls Tryz.prog 15 #[rv 0 (st Y + cum Y m) 0 (st Y + cum Y (m + 1) - 1), .int .u8 2] w fun r w' => r = .returned (.tuple #[rv 0 (st Y + cum Y (m + 1)) 0 (st Y + cum Y (m + 1 + 1) - 1), .int .i64 0]) ∧ Below w.heap.size w w' := by
  have b := st_bd2 (y := Y) (by omega) (by omega)
  have c := @cum_bd Y m (by omega) (by omega)
  have h := next_any 2 0 (st Y + cum Y m) 0 (st Y + cum Y (m + 1) - 1) w hs (by omega) (by omega) (by omega) (by omega)
  rw [beside_unit (j := 12 * Y + m - 1) (by omega) (at_month Y m (by omega) (by omega) (by omega) (by omega)) (by rw [show 12 * Y + m - 1 + 1 = 12 * Y + (m + 1) - 1 by omega]; exact at_month Y (m + 1) (by omega) (by omega) (by omega) (by omega))] at h
  exact h
theorem next_month12 (Y : Int) (w : World) (hs : CalOk w) (h0 : -1000 ≤ Y) (h1 : Y ≤ 9999999999999999) :
    Calls Tryz.prog 15 #[rv 0 (st Y + cum Y 12) 0 (st Y + cum Y 13 - 1), .int .u8 2] w fun r w' => r = .returned (.tuple #[rv 0 (st (Y + 1) + cum (Y + 1) 1) 0 (st (Y + 1) + cum (Y + 1) 2 - 1), .int .i64 0]) ∧ Below w.heap.size w w' := by
  have b := st_bd2 (y := Y) (by omega) (by omega)
  have c := @cum_bd Y 12 (by omega) (by omega)
  have h := next_any 2 0 (st Y + cum Y 12) 0 (st Y + cum Y 13 - 1) w hs (by omega) (by omega) (by omega) (by omega)
  have a := at_month Y 12 (by omega) (by omega) (by omega) (by omega)
  rw [show (12 : Int) + 1 = 13 from rfl] at a
  have a2 := at_month (Y + 1) 1 (by omega) (by omega) (by omega) (by omega)
  rw [show (1 : Int) + 1 = 2 from rfl, show 12 * (Y + 1) + 1 - 1 = 12 * Y + 12 - 1 + 1 by omega] at a2
  rw [beside_unit (j := 12 * Y + 12 - 1) (by omega) a a2] at h
  exact h

theorem next_month12' (Y m : Int) (hm : m = 12) (w : World) (hs : CalOk w) (h0 : -1000 ≤ Y) (h1 : Y ≤ 9999999999999999) :
    Calls Tryz.prog 15 #[rv 0 (st Y + cum Y m) 0 (st Y + cum Y (m + 1) - 1), .int .u8 2] w fun r w' => r = .returned (.tuple #[rv 0 (st (Y + 1) + cum (Y + 1) 1) 0 (st (Y + 1) + cum (Y + 1) 2 - 1), .int .i64 0]) ∧ Below w.heap.size w w' := by
  subst hm; exact next_month12 Y w hs h0 h1

/-- A block that holds a run. -/
structure Rn (w : World) (b : Nat) (x y : Int) : Prop where
  c0 : w.cell? ⟨b, 0, none⟩ = some (.int .i8 0)
  c1 : w.cell? ⟨b, 1, none⟩ = some (.int .i64 x)
  c2 : w.cell? ⟨b, 2, none⟩ = some (.int .i8 0)
  c3 : w.cell? ⟨b, 3, none⟩ = some (.int .i64 y)
  f0 : w.frozen? ⟨b, 0, none⟩ = false
  f1 : w.frozen? ⟨b, 1, none⟩ = false
  f2 : w.frozen? ⟨b, 2, none⟩ = false
  f3 : w.frozen? ⟨b, 3, none⟩ = false
theorem Rn.lt {w : World} {b : Nat} {x y : Int} (h : Rn w b x y) : b < w.heap.size := World.block_lt_of_cell? _ _ h.c0
theorem Rn.below {w w' : World} {b : Nat} {x y : Int} (h : Rn w b x y) (hb : Below w.heap.size w w') : Rn w' b x y := by
  have l := h.lt
  obtain ⟨h0, h1, h2, h3, h4, h5, h6, h7⟩ := h
  exact ⟨cell_later hb h0, cell_later hb h1, cell_later hb h2, cell_later hb h3, by rw [hb.frozen l]; exact h4, by rw [hb.frozen l]; exact h5, by rw [hb.frozen l]; exact h6, by rw [hb.frozen l]; exact h7⟩
theorem Rn.drew {w : World} {b : Nat} {x y : Int} (h : Rn w b x y) : Rn w.drew b x y := ⟨h.c0, h.c1, h.c2, h.c3, h.f0, h.f1, h.f2, h.f3⟩
theorem Rn.new (w : World) (x y : Int) (t : TypeId) : Rn (w.alloc (.cells #[.int .i8 0, .int .i64 x, .int .i8 0, .int .i64 y] t)) w.heap.size x y := by
  have h := run_cells (Below.refl (w.alloc (.cells #[.int .i8 0, .int .i64 x, .int .i8 0, .int .i64 y] t)).heap.size (w.alloc (.cells #[.int .i8 0, .int .i64 x, .int .i8 0, .int .i64 y] t)))
  exact ⟨h.1, h.2.1, h.2.2.1, h.2.2.2.1, h.2.2.2.2.1, h.2.2.2.2.2.1, h.2.2.2.2.2.2.1, h.2.2.2.2.2.2.2⟩
/-- A run stored into a block. -/
abbrev stRun (W : World) (b : Nat) (x y : Int) : World := (((W.setCell ⟨b, 0, none⟩ (.int .i8 0)).setCell ⟨b, 1, none⟩ (.int .i64 x)).setCell ⟨b, 2, none⟩ (.int .i8 0)).setCell ⟨b, 3, none⟩ (.int .i64 y)
theorem Rn.store {W : World} {b : Nat} {x y : Int} (h : Rn W b x y) (x' y' : Int) : Rn (stRun W b x' y') b x' y' := by
  obtain ⟨h0, h1, h2, h3, h4, h5, h6, h7⟩ := h
  constructor <;> simp [stRun, go_sem, h0, h1, h2, h3, h4, h5, h6, h7]
theorem Rn.other {W : World} {b b' : Nat} {x y : Int} (h : Rn W b x y) (hne : b ≠ b') (x' y' : Int) : Rn (stRun W b' x' y') b x y := by
  obtain ⟨h0, h1, h2, h3, h4, h5, h6, h7⟩ := h
  have hne' : b' ≠ b := fun e => hne e.symm
  constructor <;> simp [stRun, go_sem, h0, h1, h2, h3, h4, h5, h6, h7, hne, hne']
theorem below_stRun {W w : World} {B b : Nat} (h : Below B W w) (hb : B ≤ b) (x y : Int) : Below B W (stRun w b x y) :=
  (((h.setCell (p := ⟨b, 0, none⟩) hb _).setCell (p := ⟨b, 1, none⟩) hb _).setCell (p := ⟨b, 2, none⟩) hb _).setCell (p := ⟨b, 3, none⟩) hb _
end Un
end Go.Proofs.YtipjmaimjchckaaGreatDoor

/-! THE WALK of the law UnitsKnown: the three loops over months and years. -/
set_option linter.unusedSimpArgs false
set_option linter.unusedVariables false
namespace Go.Proofs.YtipjmaimjchckaaGreatDoor
open Go.RowKit
namespace Un
open Cal

def ysK (c : Nat) : Int := if c = 0 then -400 else if c = 1 then 0 else if c = 2 then 1600 else 9999999999999600
theorem ysK_bd (c : Nat) : -400 ≤ ysK c ∧ ysK c ≤ 9999999999999600 := by unfold ysK; (repeat' split) <;> omega
theorem holdY (y : Int) (w : World) (hs : CalOk w) (h0 : -1000 ≤ y) (h1 : y ≤ 9999999999999999) :
    Calls Tryz.prog 8 #[.int .i64 (st y), .int .u8 1] w fun r w' => r = .returned (.tuple #[rv 0 (st y) 0 (st (y + 1) - 1), .int .i64 0]) ∧ Below w.heap.size w w' := by
  have b := st_bd2 (y := y) (by omega) (by omega)
  have h := holding_any (st y) 1 w hs (by omega) (by omega) (by omega) (by omega)
  rw [(at_unit (by omega) (at_year y (by omega) (by omega))).1] at h
  exact h
theorem holdM (y : Int) (w : World) (hs : CalOk w) (h0 : -1000 ≤ y) (h1 : y ≤ 9999999999999999) :
    Calls Tryz.prog 8 #[.int .i64 (st y), .int .u8 2] w fun r w' => r = .returned (.tuple #[rv 0 (st y) 0 (st y + cum y 2 - 1), .int .i64 0]) ∧ Below w.heap.size w w' := by
  have b := st_bd2 (y := y) (by omega) (by omega)
  have h := holding_any (st y) 2 w hs (by omega) (by omega) (by omega) (by omega)
  have a := at_month y 1 (by omega) (by omega) (by omega) (by omega)
  rw [cum_one, Int.add_zero] at a
  rw [(at_unit (by omega) a).1] at h
  exact h

set_option maxHeartbeats 4000000 in
set_option maxRecDepth 100000 in
theorem known_walk (w : World) (hs : CalOk w) (hl : laidMet Tryz.prog Rows.unitsKnownRow.laid w) :
    Calls Tryz.prog 5 #[] w fun r w' => r = .returned (.bool true) ∧ Below w.heap.size w w' := by
  have HS := Lib.hid hs; clear hs
  go_enter Tryz.func5, Tryz.ntmps5
  go_wp2_with fail
  rename_i Q' K hK
  have REST : Hid (∀ (a : Act) (W : World), Below w.heap.size w W → a.tmps.size = Tryz.f5.ntmps → a.defers = [] → K a W) := Lib.hid (fun a W hb hz hd => hK a W (Code.wp_mono (Ev.bodyPost_mono fun r w2 h => ⟨h.1, bt hb h.2⟩) (Ev.rest_wp hl hb a hz hd)))
  clear hK
  obtain ⟨W0, hW0⟩ : ∃ W0, W0 = w.alloc (.cells #[.int .i64 (-400), .int .i64 0, .int .i64 1600, .int .i64 9999999999999600] 2) := ⟨_, rfl⟩
  have hcell : Hid (∀ c : Nat, c < 4 → W0.cell? ⟨w.heap.size, c, none⟩ = some (.int .i64 (ysK c))) := Lib.hid (by
    intro c hc
    have : c = 0 ∨ c = 1 ∨ c = 2 ∨ c = 3 := by omega
    rcases this with rfl | rfl | rfl | rfl <;> (rw [hW0]; simp [go_sem, ysK]))
  have HB0 : Hid (Below w.heap.size w W0) := Lib.hid (by rw [hW0]; exact ba (Below.refl _ _) _)
  have hlt0 : Hid (w.heap.size < W0.heap.size) := Lib.hid (by rw [hW0]; simp [go_sem])
  rw [← hW0]
  clear hW0
  go_loopw [23] (fun i wr => ∃ c : Nat, c ≤ 4 ∧ i = .int .i64 (c : Int) ∧ Below W0.heap.size W0 wr) (fun i _ => 4 - (intOf i).toNat)
  case atStart => exact ⟨0, by omega, rfl, Below.refl _ _⟩
  case round =>
    obtain ⟨c, hc, rfl, hb⟩ := hrel
    generalize wr = wO at *
    have HB := Lib.hid hb; clear hb
    by_cases hlt : c < 4
    · have hcc := cell_later HB.out (hcell.out c hlt)
      obtain ⟨y0, y1⟩ := ysK_bd c
      generalize ysK c = y at *
      have HS1 := Lib.hid (HS.out.below (bt HB0.out HB.out))
      go_wp2_with (first | (go_at_call 20; refine (refStart_any _ _ (by omega) (by omega)).mono ?_; rintro e w' ⟨rfl, rfl⟩))
      refine (holdM y _ HS1.out (by omega) (by omega)).mono ?_; rintro _ w1 ⟨rfl, hb1⟩
      unfold rv
      go_wp2_with (first | (go_at_call 20; refine (refStart_any _ _ (by omega) (by omega)).mono ?_; rintro e w' ⟨rfl, rfl⟩))
      refine (holdY y _ (HS1.out.below (ba hb1 _)) (by omega) (by omega)).mono ?_; rintro _ w2 ⟨rfl, hb2⟩
      unfold rv
      go_wp2_with fail
      obtain ⟨W3, hW3⟩ : ∃ W3, W3 = w2.alloc (.cells #[.int .i8 0, .int .i64 (st y), .int .i8 0, .int .i64 (st (y + 1) - 1)] 26) := ⟨_, rfl⟩
      have HU0 : Hid (Rn W3 w2.heap.size (st y) (st (y + 1) - 1)) := Lib.hid (by rw [hW3]; exact Rn.new _ _ _ _)
      have HR0 : Hid (Rn W3 w1.heap.size (st y + cum y 1) (st y + cum y (1 + 1) - 1)) := Lib.hid (by
        have := (Rn.new w1 (st y) (st y + cum y 2 - 1) 26).below (ba hb2 (.cells #[.int .i8 0, .int .i64 (st y), .int .i8 0, .int .i64 (st (y + 1) - 1)] 26))
        rw [cum_one, Int.add_zero, hW3]; exact this)
      have HB3 : Hid (Below wO.heap.size wO W3) := Lib.hid (by rw [hW3]; exact ba (bt (ba hb1 _) hb2) _)
      have hne : Hid (w1.heap.size < w2.heap.size ∧ wO.heap.size ≤ w1.heap.size) := Lib.hid (by
        refine ⟨?_, hb1.size⟩
        have := hb2.size; simp [go_sem] at this; omega)
      rw [← hW3]
      clear hW3 hb1 hb2
      generalize w1.heap.size = br at *
      generalize w2.heap.size = bu at *
      go_loopw [4, 6, 7, 8] (fun e f ds kk wq => ∃ k : Nat, k ≤ 400 ∧ e = .int .i64 0 ∧ f = .int .i64 0 ∧ ds = .int .i64 (st (y + k) - st y) ∧ kk = .int .i64 (k : Int) ∧ Below wO.heap.size wO wq ∧ (k < 400 → Rn wq br (st (y + k) + cum (y + k) 1) (st (y + k) + cum (y + k) (1 + 1) - 1) ∧ Rn wq bu (st (y + k)) (st (y + k + 1) - 1))) (fun _ _ _ kk _ => 400 - (intOf kk).toNat)
      case atStart => exact ⟨0, by omega, rfl, rfl, vi (by simp), rfl, HB3.out, fun _ => by simpa using ⟨HR0.out, HU0.out⟩⟩
      case round =>
        obtain ⟨k, hk, rfl, rfl, rfl, rfl, hbq, hrn⟩ := hrel
        by_cases hlk : k < 400
        · obtain ⟨hR, hU⟩ := hrn hlk
          clear hrn HR0 HU0 HB3
          have HR := Lib.hid hR; have HU := Lib.hid hU; have HQ := Lib.hid hbq
          clear hR hU hbq
          have Y0 : -400 ≤ y + (k : Int) := by omega
          have Y1 : y + (k : Int) ≤ 9999999999999999 := by omega
          have hwk : IntKind.i64.wrap (y + (k : Int)) = y + (k : Int) := by rw [IntKind.wrap_i64]; omega
          obtain ⟨q0, q1, q2, q3, z0, z1, z2, z3⟩ := HU.out
          go_wp2_with fail
          go_region_held3 (fun w' => w'.cell? ⟨bu, 0, none⟩ = some (.int .i8 0) ∧ w'.cell? ⟨bu, 1, none⟩ = some (.int .i64 (st (y + (k : Int)))) ∧ w'.cell? ⟨bu, 2, none⟩ = some (.int .i8 0) ∧ w'.cell? ⟨bu, 3, none⟩ = some (.int .i64 (st (y + (k : Int) + 1) - 1)) ∧ Below wr.heap.size wr w') (first | exact ⟨q0, q1, q2, q3, (Below.refl _ _).drew⟩ | exact ⟨cell_later hb1 q0, cell_later hb1 q1, cell_later hb1 q2, cell_later hb1 q3, bt (Below.refl _ _).drew hb1⟩) ((first | (go_at_call 21; refine (refUnit0_any _ _ (by omega) (by omega)).mono ?_; rintro e w' ⟨rfl, hb1⟩; unfold rv)))
          rename_i hh
          have HU1 := Lib.hid (HU.out.below hh.2.2.2.2)
          have HR1 := Lib.hid (HR.out.below hh.2.2.2.2)
          have HQ1 := Lib.hid (bt HQ.out hh.2.2.2.2)
          clear hh hb1 q0 q1 q2 q3 z0 z1 z2 z3 HU HR HQ
          have SD : 0 ≤ st (y + (k : Int)) - st y ∧ st (y + (k : Int)) - st y ≤ 146400 := by unfold st bef; omega
          obtain ⟨b0, b1⟩ := st_bd2 (y := y) (by omega) (by omega)
          obtain ⟨b2, b3⟩ := st_bd2 (y := y + (k : Int)) (by omega) (by omega)
          go_wp2_with fail
          go_loopw [4, 7, 9] (fun e ds mm wq => ∃ m : Nat, 1 ≤ m ∧ m ≤ 13 ∧ e = .int .i64 0 ∧ ds = .int .i64 (st (y + (k : Int)) + cum (y + (k : Int)) (m : Int) - st y) ∧ mm = .int .i64 (m : Int) ∧ Below wO.heap.size wO wq ∧ Rn wq bu (st (y + (k : Int))) (st (y + (k : Int) + 1) - 1) ∧ (m ≤ 12 → Rn wq br (st (y + (k : Int)) + cum (y + (k : Int)) (m : Int)) (st (y + (k : Int)) + cum (y + (k : Int)) ((m : Int) + 1) - 1)) ∧ (m = 13 → k < 399 → Rn wq br (st (y + (k : Int) + 1) + cum (y + (k : Int) + 1) 1) (st (y + (k : Int) + 1) + cum (y + (k : Int) + 1) 2 - 1))) (fun _ _ mm _ => 13 - (intOf mm).toNat)
          case atStart => exact ⟨1, by omega, by omega, rfl, vi (by rw [show ((1 : Nat) : Int) = 1 from rfl, cum_one]; omega), rfl, HQ1.out, HU1.out, fun _ => HR1.out, fun h => absurd h (by omega)⟩
          case round =>
            obtain ⟨m, m0, m1, rfl, rfl, rfl, hbi, hui, hri, hri2⟩ := hrel
            generalize wr = wi at *
            by_cases hlm : m ≤ 12
            · have hR := hri hlm
              clear hri hri2 HR1 HU1 HQ1
              have HR := Lib.hid hR; have HU := Lib.hid hui; have HQ := Lib.hid hbi
              clear hR hui hbi
              have hwk : IntKind.i64.wrap (y + (k : Int)) = y + (k : Int) := by rw [IntKind.wrap_i64]; omega
              obtain ⟨c0, c1⟩ := @cum_bd (y + (k : Int)) (m : Int) (by omega) (by omega)
              obtain ⟨c2, c3⟩ := @cum_bd (y + (k : Int)) ((m : Int) + 1) (by omega) (by omega)
              obtain ⟨q0, q1, q2, q3, z0, z1, z2, z3⟩ := HR.out
              go_wp2_with fail
              go_region_held3 (fun w' => w'.cell? ⟨br, 0, none⟩ = some (.int .i8 0) ∧ w'.cell? ⟨br, 1, none⟩ = some (.int .i64 (st (y + (k : Int)) + cum (y + (k : Int)) (m : Int))) ∧ w'.cell? ⟨br, 2, none⟩ = some (.int .i8 0) ∧ w'.cell? ⟨br, 3, none⟩ = some (.int .i64 (st (y + (k : Int)) + cum (y + (k : Int)) ((m : Int) + 1) - 1)) ∧ Below wi.heap.size wi w') (first | exact ⟨q0, q1, q2, q3, (Below.refl _ _).drew⟩ | exact ⟨cell_later hb1 q0, cell_later hb1 q1, cell_later hb1 q2, cell_later hb1 q3, bt (Below.refl _ _).drew hb1⟩) ((first | (go_at_call 21; refine (refUnitM_any _ _ _ (by omega) (by omega) (by omega) (by omega)).mono ?_; rintro e w' ⟨rfl, hb1⟩; unfold rv)))
              rename_i hh
              have HU2 := Lib.hid (HU.out.below hh.2.2.2.2)
              have HR2 := Lib.hid (HR.out.below hh.2.2.2.2)
              have HQ2 := Lib.hid (bt HQ.out hh.2.2.2.2)
              clear hh hb1 q0 q1 q2 q3 z0 z1 z2 z3 HU HR HQ
              obtain ⟨q0, q1, q2, q3, z0, z1, z2, z3⟩ := HR2.out
              have hcs := cum_succ (y + (k : Int)) (m : Int) (by omega) (by omega)
              have HCS := Lib.hid hcs; clear hcs
              by_cases hm : m < 12
              · by_cases hk9 : k < 399
                · skip
                  go_wp2_with fail
                  refine (next_month (y + (k : Int)) (m : Int) _ (HS1.out.below HQ2.out) (by omega) (by omega) (by omega) (by omega)).mono ?_; rintro _ w5 ⟨rfl, hb5⟩
                  unfold rv
                  have HU3 := Lib.hid (HU2.out.below hb5)
                  have HR3 := Lib.hid (HR2.out.below hb5)
                  have HQ3 := Lib.hid (bt HQ2.out hb5)
                  clear q0 q1 q2 q3 z0 z1 z2 z3 hb5 HU2 HR2 HQ2
                  obtain ⟨q0, q1, q2, q3, z0, z1, z2, z3⟩ := HR3.out
                  go_wp2_with fail
                  go_roundw
                  case rel => exact ⟨m + 1, by omega, by omega, rfl, vi (by rw [show ((m + 1 : Nat) : Int) = (m : Int) + 1 by omega]; omega), by go_num, below_stRun HQ3.out (by have := hne.out; omega) _ _, HU3.out.other (by have := hne.out; omega) _ _, fun _ => (by rw [show ((m + 1 : Nat) : Int) = (m : Int) + 1 by omega]; exact HR3.out.store _ _), fun h => absurd h (by omega)⟩
                  case measure => simp [intOf]; omega
                · skip
                  go_wp2_with fail
                  refine (next_month (y + (k : Int)) (m : Int) _ (HS1.out.below HQ2.out) (by omega) (by omega) (by omega) (by omega)).mono ?_; rintro _ w5 ⟨rfl, hb5⟩
                  unfold rv
                  have HU3 := Lib.hid (HU2.out.below hb5)
                  have HR3 := Lib.hid (HR2.out.below hb5)
                  have HQ3 := Lib.hid (bt HQ2.out hb5)
                  clear q0 q1 q2 q3 z0 z1 z2 z3 hb5 HU2 HR2 HQ2
                  obtain ⟨q0, q1, q2, q3, z0, z1, z2, z3⟩ := HR3.out
                  go_wp2_with fail
                  go_roundw
                  case rel => exact ⟨m + 1, by omega, by omega, rfl, vi (by rw [show ((m + 1 : Nat) : Int) = (m : Int) + 1 by omega]; omega), by go_num, below_stRun HQ3.out (by have := hne.out; omega) _ _, HU3.out.other (by have := hne.out; omega) _ _, fun _ => (by rw [show ((m + 1 : Nat) : Int) = (m : Int) + 1 by omega]; exact HR3.out.store _ _), fun h => absurd h (by omega)⟩
                  case measure => simp [intOf]; omega
              · by_cases hk9 : k < 399
                · skip
                  go_wp2_with fail
                  refine (next_month12' (y + (k : Int)) (m : Int) (by omega) _ (HS1.out.below HQ2.out) (by omega) (by omega)).mono ?_; rintro _ w5 ⟨rfl, hb5⟩
                  unfold rv
                  have HU3 := Lib.hid (HU2.out.below hb5)
                  have HR3 := Lib.hid (HR2.out.below hb5)
                  have HQ3 := Lib.hid (bt HQ2.out hb5)
                  clear q0 q1 q2 q3 z0 z1 z2 z3 hb5 HU2 HR2 HQ2
                  obtain ⟨q0, q1, q2, q3, z0, z1, z2, z3⟩ := HR3.out
                  go_wp2_with fail
                  go_roundw
                  case rel => exact ⟨m + 1, by omega, by omega, rfl, vi (by rw [show ((m + 1 : Nat) : Int) = (m : Int) + 1 by omega]; omega), by go_num, below_stRun HQ3.out (by have := hne.out; omega) _ _, HU3.out.other (by have := hne.out; omega) _ _, fun h => absurd h (by omega), fun _ _ => HR3.out.store _ _⟩
                  case measure => simp [intOf]; omega
                · go_wp2_with fail
                  go_roundw
                  case rel => exact ⟨m + 1, by omega, by omega, rfl, vi (by rw [show ((m + 1 : Nat) : Int) = (m : Int) + 1 by omega]; omega), by go_num, HQ2.out, HU2.out, fun h => absurd h (by omega), fun _ h => absurd h (by omega)⟩
                  case measure => simp [intOf]; omega
            · obtain rfl : m = 13 := by omega
              have HU := Lib.hid hui; have HQ := Lib.hid hbi
              have CL := Lib.hid (cum_last (y + (k : Int)))
              have SS := Lib.hid (st_succ (y + (k : Int)))
              have CL2 : Hid (cum (y + (k : Int)) ((13 : Nat) : Int) = 365 + lp (y + (k : Int))) := Lib.hid (cum_last _)
              clear hri hui hbi HR1 HU1 HQ1
              by_cases hk9 : k < 399
              · have HR := Lib.hid (hri2 rfl hk9)
                clear hri2
                obtain ⟨q0, q1, q2, q3, z0, z1, z2, z3⟩ := HU.out
                go_wp2_with fail
                refine (next_year (y + (k : Int)) _ (HS1.out.below HQ.out) (by omega) (by omega)).mono ?_; rintro _ w5 ⟨rfl, hb5⟩
                unfold rv
                have HU3 := Lib.hid (HU.out.below hb5)
                have HR3 := Lib.hid (HR.out.below hb5)
                have HQ3 := Lib.hid (bt HQ.out hb5)
                clear q0 q1 q2 q3 z0 z1 z2 z3 hb5 HU HR HQ
                obtain ⟨q0, q1, q2, q3, z0, z1, z2, z3⟩ := HU3.out
                go_wp2_with fail
                go_roundw
                case rel => exact ⟨k + 1, by omega, rfl, rfl, vi (by rw [show y + ((k + 1 : Nat) : Int) = y + (k : Int) + 1 by omega]; have := CL.out; have := SS.out; omega), by go_num, below_stRun HQ3.out (by have := hne.out; omega) _ _, fun _ => by
                  rw [show y + ((k + 1 : Nat) : Int) = y + (k : Int) + 1 by omega]
                  exact ⟨HR3.out.other (by have := hne.out; omega) _ _, HU3.out.store _ _⟩⟩
                case measure => simp [intOf]; omega
              · clear hri2
                go_wp2_with fail
                go_roundw
                case rel => exact ⟨k + 1, by omega, rfl, rfl, vi (by rw [show y + ((k + 1 : Nat) : Int) = y + (k : Int) + 1 by omega]; have := CL.out; have := CL2.out; have := SS.out; omega), by go_num, HQ.out, fun h => absurd h (by omega)⟩
                case measure => simp [intOf]; omega
        · obtain rfl : k = 400 := by omega
          have HQ := Lib.hid hbq
          clear hrn hbq HR0 HU0 HB3
          have e : st (y + ((400 : Nat) : Int)) - st y = 146097 := by unfold st bef; omega
          rw [e]
          go_wp2_with fail
          go_roundw
          case rel => exact ⟨c + 1, by omega, by go_num, bt HB.out HQ.out⟩
          case measure => simp [intOf]; omega
    · obtain rfl : c = 4 := by omega
      go_wp2_with fail
      exact REST.out _ _ (bt HB0.out HB.out) rfl rfl
end Un
end Go.Proofs.YtipjmaimjchckaaGreatDoor

