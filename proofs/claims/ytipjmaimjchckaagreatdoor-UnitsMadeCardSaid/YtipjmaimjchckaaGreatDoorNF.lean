/- Rows of a block, whatever they hold; lists of numbers in memory. -/
import Derived.Test.YtipjmaimjchckaaGreatDoorND
import Derived.Test.YtipjmaimjchckaaGreatDoorNE
import Derived.Deep.CutBlock
/-! Rows of a block, whatever they hold; lists of numbers in memory. -/
set_option linter.unusedSimpArgs false
set_option linter.unusedVariables false
set_option maxRecDepth 100000
namespace Go.Proofs.YtipjmaimjchckaaGreatDoor
open Go.RowKit Go.Lib
namespace Bk
open Un (ba bt ri rb ret2_ii ret2_bi)

/-- A block of the call's own holds a row. -/
structure Rw (p : Nat) (vs : List Value) (w W : World) : Prop where
  cell : ∀ i v, vs[i]? = some v → W.cell? ⟨p, i, none⟩ = some v
  free : ∀ i, i < vs.length → W.frozen? ⟨p, i, none⟩ = false
  new : w.heap.size ≤ p
  lt : p < W.heap.size
  below : Below w.heap.size w W
theorem Rw.later {p : Nat} {vs : List Value} {w W W2 : World} (h : Rw p vs w W) (hb : Below W.heap.size W W2) : Rw p vs w W2 :=
  ⟨fun i v hv => (hb.cell (p := ⟨p, i, none⟩) h.lt).trans (h.cell i v hv), fun i hi => (hb.frozen (p := ⟨p, i, none⟩) h.lt).trans (h.free i hi), h.new, by have := h.lt; have := hb.size; omega, bt h.below hb⟩
theorem Rw.range {p : Nat} {vs : List Value} {w W : World} (h : Rw p vs w W) : W.rangeAt p 0 vs := fun j v hv => by rw [Nat.zero_add]; exact h.cell j v hv
theorem Rw.there {p : Nat} {vs : List Value} {w W : World} (h : Rw p vs w W) : W.there p 0 vs.length := fun j hj => by
  rw [Nat.zero_add, h.cell j _ (List.getElem?_eq_getElem hj)]; exact ⟨rfl, h.free j hj⟩
theorem Rw.fresh {w W : World} (hb : Below w.heap.size w W) (vs : List Value) (t : TypeId) : Rw W.heap.size vs w (W.alloc (.cells vs.toArray t)) :=
  ⟨fun i v hv => by rw [World.cell?_alloc_new]; simpa using hv, fun i hi => by simp, hb.size, by show W.heap.size < (W.heap.push _).size; simp, ba hb _⟩
theorem setCells_frozen (p : Nat) (b : Addr) : ∀ (vs : List Value) (k : Nat) (W : World), (W.setCells p k vs).frozen? b = W.frozen? b
  | [], _, _ => rfl
  | u :: r, k, W => by unfold World.setCells; rw [setCells_frozen p b r, World.frozen?_setCell]
theorem setCells_below {p : Nat} {w : World} (hp : w.heap.size ≤ p) : ∀ (vs : List Value) (k : Nat) (W : World), Below w.heap.size w W → Below w.heap.size w (W.setCells p k vs)
  | [], _, _, h => h
  | u :: r, k, W, h => by unfold World.setCells; exact setCells_below hp r _ _ (h.setCell hp _)
theorem setCells_size {p : Nat} : ∀ (vs : List Value) (k : Nat) (W : World), (W.setCells p k vs).heap.size = W.heap.size
  | [], _, _ => rfl
  | u :: r, k, W => by unfold World.setCells; rw [setCells_size r]; simp [World.setCell]
theorem setCells_cell {p : Nat} : ∀ (vs : List Value) (k : Nat) (W : World), (∀ i, k ≤ i → i < k + vs.length → (W.cell? ⟨p, i, none⟩).isSome = true) → ∀ j v, vs[j]? = some v → (W.setCells p k vs).cell? ⟨p, k + j, none⟩ = some v
  | [], k, W, _, j, v, hv => by simp at hv
  | u :: r, k, W, hs, j, v, hv => by
    unfold World.setCells
    cases j with
    | zero =>
      simp at hv; subst hv
      rw [World.cell?_setCells_out p r (k + 1) _ ⟨p, k + 0, none⟩ (fun _ _ => .inl (by show k + 0 < k + 1; omega))]
      obtain ⟨x, hx⟩ := Option.isSome_iff_exists.1 (hs k (Nat.le_refl _) (by simp))
      exact World.cell?_setCell_same _ _ _ hx
    | succ j =>
      rw [show k + (j + 1) = k + 1 + j by omega]
      refine setCells_cell r (k + 1) _ (fun i h1 h2 => ?_) j v (by simpa using hv)
      rw [World.cell?_setCell_other _ _ _ _ (by intro e; injection e with _ e2; omega)]
      exact hs i (by omega) (by simp; omega)
theorem Rw.setAll {p : Nat} {vs : List Value} {w W : World} (h : Rw p vs w W) (us : List Value) (hl : us.length = vs.length) : Rw p us w (W.setCells p 0 us) := by
  refine ⟨fun i v hv => ?_, fun i hi => by rw [setCells_frozen]; exact h.free i (by omega), h.new, by rw [setCells_size]; exact h.lt, setCells_below h.new _ _ _ h.below⟩
  have := setCells_cell us 0 W (fun j _ hj => by
    rw [h.cell j _ (List.getElem?_eq_getElem (by omega))]; rfl) i v hv
  rw [Nat.zero_add] at this
  exact this
theorem Rw.set {p : Nat} {vs : List Value} {w W : World} (h : Rw p vs w W) (k : Nat) (hk : k < vs.length) (v : Value) : Rw p (vs.set k v) w (W.setCell ⟨p, k, none⟩ v) := by
  refine ⟨fun i u hu => ?_, fun i hi => by rw [World.frozen?_setCell]; exact h.free i (by simpa using hi), h.new, by show p < (W.heap.modify _ _).size; rw [Array.size_modify]; exact h.lt, h.below.setCell h.new _⟩
  by_cases c : k = i
  · subst c
    rw [List.getElem?_set_self hk] at hu
    cases hu
    exact World.cell?_setCell_same _ _ _ (h.cell k _ (List.getElem?_eq_getElem hk))
  · rw [List.getElem?_set_ne c] at hu
    rw [World.cell?_setCell_other _ _ _ _ (by intro e; injection e with e1 e2; exact c e2)]
    exact h.cell i u hu
theorem Rw.other {p q : Nat} {vs : List Value} {w W : World} (h : Rw p vs w W) (hne : q ≠ p) (hq : w.heap.size ≤ q) (k : Nat) (v : Value) : Rw p vs w (W.setCell ⟨q, k, none⟩ v) := by
  refine ⟨fun i u hu => ?_, fun i hi => by rw [World.frozen?_setCell]; exact h.free i hi, h.new, by show p < (W.heap.modify _ _).size; rw [Array.size_modify]; exact h.lt, h.below.setCell hq _⟩
  rw [World.cell?_setCell_other _ _ _ _ (by intro e; injection e with e1 e2; exact hne e1)]
  exact h.cell i u hu
theorem Rw.others {p q : Nat} {vs : List Value} {w W : World} (h : Rw p vs w W) (hne : q ≠ p) (hq : w.heap.size ≤ q) : ∀ (us : List Value) (k : Nat), Rw p vs w (W.setCells q k us) := by
  intro us
  induction us generalizing W with
  | nil => intro k; exact h
  | cons u r ih => intro k; unfold World.setCells; exact ih (h.other hne hq k u) (k + 1)

/-- A slice of numbers, not empty. -/
def IntSl (W : World) (v : Value) (l : List Int) : Prop := ∃ g cap, v = .slice (some ⟨g, 0, none⟩) l.length cap ∧ g < W.heap.size ∧ ∀ i (h : i < l.length), W.cell? ⟨g, i, none⟩ = some (.int .i64 (l[i]'h))
theorem IntSl.later {W W2 : World} {v : Value} {l : List Int} (h : IntSl W v l) (hb : Below W.heap.size W W2) : IntSl W2 v l := by
  obtain ⟨g, cap, rfl, hg, hc⟩ := h
  exact ⟨g, cap, rfl, by have := hb.size; omega, fun i hi => (hb.cell (p := ⟨g, i, none⟩) hg).trans (hc i hi)⟩
/-- A list that the call itself gathered. -/
theorem IntSl.own {W : World} {base e : Nat} {v : Value} {l : List Int} (h : W.ownsRow base e 1 v l.length (l.map (.int .i64))) (hne : l ≠ []) : IntSl W v l := by
  obtain ⟨h1, ⟨rfl, h2⟩ | ⟨g, cap, cur, rfl, hg, hh, hn, hc, hs, ht⟩⟩ := h
  · exact absurd (List.length_eq_zero_iff.1 h2) hne
  · refine ⟨g, cap, rfl, ?_, fun i hi => ?_⟩
    · by_cases c : g < W.heap.size
      · exact c
      · rw [Array.getElem?_eq_none (by omega)] at hh; cases hh
    · have hown : W.ownsRow base e 1 (.slice (some ⟨g, 0, none⟩) l.length cap) l.length (l.map (.int .i64)) := ⟨h1, .inr ⟨g, cap, cur, rfl, hg, hh, hn, hc, hs, ht⟩⟩
      rw [hown.cellAt i (by omega), List.getElem?_map, List.getElem?_eq_getElem hi]; rfl
/-- A list of one number. -/
theorem IntSl.one {W : World} {g cap : Nat} {n : Int} (hg : g < W.heap.size) (hc : W.cell? ⟨g, 0, none⟩ = some (.int .i64 n)) : IntSl W (.slice (some ⟨g, 0, none⟩) 1 cap) [n] :=
  ⟨g, cap, rfl, hg, fun i hi => by
    have : i = 0 := by simp at hi; omega
    subst this; exact hc⟩
def RetSl (l : List Int) (w : World) (e : Ending) (w' : World) : Prop := ∃ v, e = .returned v ∧ IntSl w' v l ∧ Below w.heap.size w w'

theorem info_int : (Tryz.prog.info? 3).map (fun i => (i.zero, i.size, i.bytes)) = some (some (.int .i64 0), 1, 8) := by kernel_rfl

theorem fagrees_any (s : ByteArray) (n : Int) (w : World) (h2 : s.size = 2) (hx : ∀ i, i < 2 → byt s i = 88 ∨ (48 ≤ byt s i ∧ byt s i ≤ 57)) (n0 : 1 ≤ n) (n1 : n ≤ 99) :
    Calls Tryz.prog 137 #[.string s, .int .i64 n] w fun r w' => r = .returned (.bool (agrB s n)) ∧ w = w' := by
  have l0 : 0 < s.size := by omega
  have l1 : 1 < s.size := by omega
  have hA := agrB_at h2 n
  have x0 := hx 0 (by omega); have x1 := hx 1 (by omega)
  rw [byt_get s 0 l0] at x0; rw [byt_get s 1 l1] at x1
  have y0 : 48 ≤ ((s[0]'l0).toNat : Int) := by omega
  have y1 : 48 ≤ ((s[1]'l1).toNat : Int) := by omega
  have z0 : ((s[0]'l0).toNat : Int) ≤ 88 := by omega
  have z1 : ((s[1]'l1).toNat : Int) ≤ 88 := by omega
  have q0 : 0 ≤ n / 10 := by omega
  have r0 : 0 ≤ n % 10 := by omega
  obtain ⟨a0, g0⟩ : ∃ b, (((s[0]'l0).toNat : Int) == 88) = b := ⟨_, rfl⟩
  obtain ⟨a1, g1⟩ : ∃ b, (((s[0]'l0).toNat : Int) - 48 == n / 10) = b := ⟨_, rfl⟩
  obtain ⟨b0, g2⟩ : ∃ b, (((s[1]'l1).toNat : Int) == 88) = b := ⟨_, rfl⟩
  obtain ⟨b1, g3⟩ : ∃ b, (((s[1]'l1).toNat : Int) - 48 == n % 10) = b := ⟨_, rfl⟩
  have g1' : (((s[0]'l0).toNat : Int) == 48 + n / 10) = a1 := by rw [← g1, Bool.eq_iff_iff]; simp only [beq_iff_eq]; omega
  have g3' : (((s[1]'l1).toNat : Int) == 48 + n % 10) = b1 := by rw [← g3, Bool.eq_iff_iff]; simp only [beq_iff_eq]; omega
  rw [agr_cases g0 g1' g2 g3'] at hA
  have HA := Lib.hid hA
  clear hA x0 x1 hx g1' g3' h2
  cases a0 <;> cases a1 <;> cases b0 <;> cases b1
  all_goals
    as_aux_lemma =>
      go_enter Tryz.func137, Tryz.ntmps137
      go_wp2
      go_ret
      exact ⟨rb HA.out.symm, rfl⟩

theorem fits_le (s : ByteArray) (g : Nat) : (fitsL s g).length ≤ g := fitsL_len s g
set_option maxHeartbeats 4000000 in
theorem fits_any (s : ByteArray) (g : Nat) (w : World) (h2 : s.size = 2) (hx : ∀ i, i < 2 → byt s i = 88 ∨ (48 ≤ byt s i ∧ byt s i ≤ 57)) (hg : g ≤ 99) (hne : fitsL s g ≠ []) :
    Calls Tryz.prog 113 #[.string s, .int .i64 g] w (RetSl (fitsL s g) w) := by
  obtain ⟨i0, hi, hz0, hz1, hz2⟩ := info_parts info_int
  have HF := Lib.hid (fun (k : Nat) (hk : k < g) (w : World) => fagrees_any s ((k : Int) + 1) w h2 hx (by omega) (by omega))
  have HNE := Lib.hid hne
  clear hx hne h2
  go_enter Tryz.func113, Tryz.ntmps113
  go_wp2
  go_loopw [5, 8] (fun v i wr => ∃ k : Nat, k ≤ g ∧ i = .int .i64 k ∧ wr.ownsRow w.heap.size 3 1 v (fitsL s k).length ((fitsL s k).map (Value.int .i64)) ∧ Below w.heap.size w wr) (fun _ i _ => g - (intOf i).toNat)
  case atStart => exact ⟨0, Nat.zero_le _, rfl, World.ownsRow_nil _ _ _ _, Below.refl _ _⟩
  case round =>
    obtain ⟨k, hk, rfl, hown, hb⟩ := hrel
    by_cases hlt : k < g
    · have hf := HF.out k hlt
      have hle := fits_le s k
      cases ha : agrB s ((k : Int) + 1)
      · as_aux_lemma =>
          rw [ha] at hf
          have HA := Lib.hid hf
          have HE := Lib.hid (fitsL_no ha)
          have HO := Lib.hid hown
          have HB := Lib.hid hb
          clear hf ha hown hb
          go_wp2_with (go_at_call 137; with_reducible refine (HA.out _).mono ?_; rintro _ w' ⟨rfl, rfl⟩)
          go_roundw
          case rel => exact ⟨k + 1, by omega, by go_num, by rw [HE.out]; exact HO.out, HB.out⟩
          case measure => simp [intOf]; omega
      · as_aux_lemma =>
          rw [ha] at hf
          have HA := Lib.hid hf
          have HE := Lib.hid (fitsL_yes ha)
          have HB := Lib.hid hb
          clear hf ha hb
          go_wp2_with (first
            | (go_at_call 137; with_reducible refine (HA.out _).mono ?_; rintro _ w' ⟨rfl, rfl⟩)
            | (at_builtin; refine wpList_append_own _ rfl _ _ 92 rfl w.heap.size 3 i0 (.int .i64 0) 1 8 Tryz.underlying92 hi hz0 hz1 hz2 rfl (by decide) _ _ _ rfl (hown.alloc _) ⟨wr.heap.size, 0, none⟩ 1 1 [.int .i64 ((k : Int) + 1)] rfl rfl ?c1 ?c2 ?c3 ?c4 ?c5 ?_))
          case c1 =>
            intro j u hj
            match j, hj with
            | 0, hj => simp at hj; subst hj; simp [Addr.add]
          case c2 => intro u hu; simp at hu; subst hu; rfl
          case c3 => unfold maxLen; omega
          case c4 => omega
          case c5 => have := HB.out.size; simp; omega
          intro v' w1 hown' hgrow _
          have hB2 := ((HB.out).alloc (HB.out.size) (.cells #[.int .i64 ((k : Int) + 1)] 3)).grown hgrow (by have := HB.out.size; simp; omega) (fun j hj => (hown.lt j hj).1)
          have hO2 : w1.ownsRow w.heap.size 3 1 v' (fitsL s (k + 1)).length ((fitsL s (k + 1)).map (Value.int .i64)) := by rw [HE.out]; simpa using hown'
          replace hB2 := Lib.hid hB2
          replace hO2 := Lib.hid hO2
          clear hown' hgrow hown HB
          go_wp2
          go_roundw
          case rel => exact ⟨k + 1, by omega, by go_num, hO2.out, hB2.out⟩
          case measure => simp [intOf]; omega
    · as_aux_lemma =>
        obtain rfl : k = g := by omega
        have hS := IntSl.own hown HNE.out
        have HB := Lib.hid hb
        replace hS := Lib.hid hS
        clear hown hb HF
        go_wp2
        go_ret
        exact ⟨_, rfl, hS.out, HB.out⟩
end Bk
end Go.Proofs.YtipjmaimjchckaaGreatDoor

/-! THE WALKS of package fillings: of, length, year. -/
set_option linter.unusedSimpArgs false
set_option linter.unusedVariables false
set_option maxRecDepth 100000
namespace Go.Proofs.YtipjmaimjchckaaGreatDoor
open Go.RowKit Go.Lib
namespace Bk
open Un (ba bt ri rb ret2_ii ret2_bi)

theorem someA_facts {s : ByteArray} {g : Nat} (hg : g ≤ 99) (h : someA s g = true) : s.size = 2 ∧ (∀ i, i < 2 → byt s i = 88 ∨ (48 ≤ byt s i ∧ byt s i ≤ 57)) ∧ fitsL s g ≠ [] := by
  refine ⟨?_, ?_, (fitsL_some s g).1 h⟩
  · by_cases c : s.size = 2
    · exact c
    · rw [someA_size c] at h; cases h
  · obtain ⟨n, h1, h2, h3⟩ := (someA_iff s g).1 h
    unfold agrB at h3
    simp only [Bool.and_eq_true, Bool.or_eq_true, decide_eq_true_eq] at h3
    intro i hi
    obtain rfl | rfl : i = 0 ∨ i = 1 := by omega
    all_goals omega

/-- The cells of a date; of a form of fillings. -/
def lstD (d : Dt) : List Value := [.bool d.neg, .bool d.long, .string d.dg, .int .i64 d.ex, .int .i64 d.sig, .string d.mo, .string d.da, .int .u8 d.m0, .int .u8 d.m1, .int .u8 d.m2]
def lstF (d : Dt) (mv dv : Value) : List Value := [.bool d.neg, .bool d.long, .string d.dg, .int .i64 d.ex, .int .i64 d.sig, .string d.mo, .string d.da, .int .u8 d.m0, .int .u8 d.m1, .int .u8 d.m2, mv, dv]
def lst0 : List Value := [.bool false, .bool false, .string ⟨#[]⟩, .int .i64 0, .int .i64 0, .string ⟨#[]⟩, .string ⟨#[]⟩, .int .u8 0, .int .u8 0, .int .u8 0, .slice none 0 0, .slice none 0 0]
theorem dtv_eq (d : Dt) : dtv d = .agg (lstD d).toArray := rfl
theorem info_date : (Tryz.prog.info? 52).map (·.size) = some 10 := by kernel_rfl
theorem info_form : (Tryz.prog.info? 107).map (·.size) = some 12 := by kernel_rfl
def RetForm (d : Dt) (w : World) (e : Ending) (w' : World) : Prop := ∃ mv dv, e = .returned (.agg (lstF d mv dv).toArray) ∧ IntSl w' mv d.ms ∧ IntSl w' dv d.ds ∧ Below w.heap.size w w'

/-- What a date without errors is: its months, its days. -/
theorem form_facts {d : Dt} (h : d.form = 0) : (d.season ≠ 0 ∧ d.mo.size ≠ 0 ∧ d.da.size = 0) ∨ (d.season = 0 ∧ d.mo.size ≠ 0 ∧ someA d.mo 12 = true ∧ (d.da.size = 0 ∨ someA d.da 31 = true)) ∨ (d.season = 0 ∧ d.mo.size = 0 ∧ d.da.size = 0) := by
  obtain ⟨_, h1, h2, _⟩ := Dt.form_zero h
  by_cases c : d.season = 0
  · by_cases e : d.mo.size = 0
    · refine .inr (.inr ⟨c, e, ?_⟩)
      rcases h2 with h2 | h2
      · exact h2
      · exact absurd e h2.1
    · refine .inr (.inl ⟨c, e, ?_, ?_⟩)
      · rcases h1 with h1 | h1 | h1
        · exact absurd h1 e
        · exact absurd c h1
        · exact h1
      · rcases h2 with h2 | h2
        · exact .inl h2
        · exact .inr h2.2.2
  · refine .inl ⟨c, ?_, ?_⟩
    · intro e; exact c (season_size (by omega))
    · rcases h2 with h2 | h2
      · exact h2
      · exact absurd h2.2.1 c

theorem alloc_size (w : World) (o : Obj) : (w.alloc o).heap.size = w.heap.size + 1 := by show (w.heap.push o).size = _; simp
theorem one12 (d : Dt) {mv dv : Value} (hm : mv.oneCell' = true) (hd : dv.oneCell' = true) : (lstF d mv dv).toArray.all (·.oneCell') = true :=
  all_oneCell_toArray (fun v hv => by
    unfold lstF at hv
    simp only [List.mem_cons, List.not_mem_nil, or_false] at hv
    rcases hv with rfl | rfl | rfl | rfl | rfl | rfl | rfl | rfl | rfl | rfl | rfl | rfl <;> first | rfl | assumption)
theorem IntSl.one' {W : World} {v : Value} {l : List Int} (h : IntSl W v l) : v.oneCell' = true := by obtain ⟨g, cap, rfl, _⟩ := h; rfl
theorem IntSl.lit {w W : World} (n : Int) : IntSl (W.alloc (.cells #[.int .i64 n] 3)) (.slice (some ⟨W.heap.size, 0, none⟩) 1 1) [n] :=
  IntSl.one (by rw [alloc_size]; omega) (by simp [go_sem])
theorem Rw.dcells {p : Nat} {d : Dt} {w W : World} (h : Rw p (lstD d) w W) : W.cell? ⟨p, 0, none⟩ = some (.bool d.neg) ∧ W.cell? ⟨p, 1, none⟩ = some (.bool d.long) ∧ W.cell? ⟨p, 2, none⟩ = some (.string d.dg) ∧ W.cell? ⟨p, 3, none⟩ = some (.int .i64 d.ex) ∧ W.cell? ⟨p, 4, none⟩ = some (.int .i64 d.sig) ∧ W.cell? ⟨p, 5, none⟩ = some (.string d.mo) ∧ W.cell? ⟨p, 6, none⟩ = some (.string d.da) ∧ W.cell? ⟨p, 7, none⟩ = some (.int .u8 d.m0) ∧ W.cell? ⟨p, 8, none⟩ = some (.int .u8 d.m1) ∧ W.cell? ⟨p, 9, none⟩ = some (.int .u8 d.m2) :=
  ⟨h.cell _ _ rfl, h.cell _ _ rfl, h.cell _ _ rfl, h.cell _ _ rfl, h.cell _ _ rfl, h.cell _ _ rfl, h.cell _ _ rfl, h.cell _ _ rfl, h.cell _ _ rfl, h.cell _ _ rfl⟩
/-- The form that fillings.of begins with. -/
theorem form_new {w W0 : World} {p1 p2 : Nat} (d : Dt) (h1 : Rw p1 (lstD d) w W0) (h2 : Rw p2 lst0 w W0) :
    (((W0.alloc (.cells #[.int .i64 0] 3)).alloc (.cells #[.int .i64 0] 3)).alloc (.cells #[.bool false, .bool false, .string ⟨#[]⟩, .int .i64 0, .int .i64 0, .string ⟨#[]⟩, .string ⟨#[]⟩, .int .u8 0, .int .u8 0, .int .u8 0, .slice none 0 0, .slice none 0 0] 107)).there (W0.heap.size + 1 + 1) 0 12 ∧
    ∀ mv dv : Value, mv = .slice (some ⟨W0.heap.size, 0, none⟩) 1 1 → dv = .slice (some ⟨W0.heap.size + 1, 0, none⟩) 1 1 → ∀ W3, W3 = (((W0.alloc (.cells #[.int .i64 0] 3)).alloc (.cells #[.int .i64 0] 3)).alloc (.cells #[.bool false, .bool false, .string ⟨#[]⟩, .int .i64 0, .int .i64 0, .string ⟨#[]⟩, .string ⟨#[]⟩, .int .u8 0, .int .u8 0, .int .u8 0, .slice none 0 0, .slice none 0 0] 107)).setCells (W0.heap.size + 1 + 1) 0 (lstF d mv dv) →
      W0.heap.size + 1 + 1 ≠ p2 ∧ W0.heap.size + 1 + 1 ≠ p1 ∧ Rw (W0.heap.size + 1 + 1) (lstF d mv dv) w W3 ∧ Rw p2 lst0 w W3 ∧ Rw p1 (lstD d) w W3 ∧ IntSl W3 mv [0] ∧ IntSl W3 dv [0] := by
  have b0 := h1.below
  have e1 : (W0.alloc (.cells #[.int .i64 0] 3)).heap.size = W0.heap.size + 1 := alloc_size _ _
  have e2 : ((W0.alloc (.cells #[.int .i64 0] 3)).alloc (.cells #[.int .i64 0] 3)).heap.size = W0.heap.size + 1 + 1 := by rw [alloc_size, e1]
  have h3 : Rw (W0.heap.size + 1 + 1) lst0 w (((W0.alloc (.cells #[.int .i64 0] 3)).alloc (.cells #[.int .i64 0] 3)).alloc (.cells #[.bool false, .bool false, .string ⟨#[]⟩, .int .i64 0, .int .i64 0, .string ⟨#[]⟩, .string ⟨#[]⟩, .int .u8 0, .int .u8 0, .int .u8 0, .slice none 0 0, .slice none 0 0] 107)) := by
    have := Rw.fresh (ba (ba b0 (.cells #[.int .i64 0] 3)) (.cells #[.int .i64 0] 3)) lst0 107
    rw [e2] at this
    exact this
  refine ⟨h3.there, ?_⟩
  rintro mv dv rfl rfl W3 rfl
  have l1 := h1.lt
  have l2 := h2.lt
  have n1 := h1.new
  have bA : Below W0.heap.size W0 (((W0.alloc (.cells #[.int .i64 0] 3)).alloc (.cells #[.int .i64 0] 3)).alloc (.cells #[.bool false, .bool false, .string ⟨#[]⟩, .int .i64 0, .int .i64 0, .string ⟨#[]⟩, .string ⟨#[]⟩, .int .u8 0, .int .u8 0, .int .u8 0, .slice none 0 0, .slice none 0 0] 107)) := ba (ba (ba (Below.refl _ _) _) _) _
  have i1 : IntSl (((W0.alloc (.cells #[.int .i64 0] 3)).alloc (.cells #[.int .i64 0] 3)).alloc (.cells #[.bool false, .bool false, .string ⟨#[]⟩, .int .i64 0, .int .i64 0, .string ⟨#[]⟩, .string ⟨#[]⟩, .int .u8 0, .int .u8 0, .int .u8 0, .slice none 0 0, .slice none 0 0] 107)) (.slice (some ⟨W0.heap.size, 0, none⟩) 1 1) [0] :=
    ((IntSl.lit (w := w) (W := W0) 0).later (ba (Below.refl _ _) _)).later (ba (Below.refl _ _) _)
  have i2 : IntSl (((W0.alloc (.cells #[.int .i64 0] 3)).alloc (.cells #[.int .i64 0] 3)).alloc (.cells #[.bool false, .bool false, .string ⟨#[]⟩, .int .i64 0, .int .i64 0, .string ⟨#[]⟩, .string ⟨#[]⟩, .int .u8 0, .int .u8 0, .int .u8 0, .slice none 0 0, .slice none 0 0] 107)) (.slice (some ⟨W0.heap.size + 1, 0, none⟩) 1 1) [0] := by
    have := (IntSl.lit (w := w) (W := W0.alloc (.cells #[.int .i64 0] 3)) 0).later (ba (Below.refl _ _) (.cells #[.bool false, .bool false, .string ⟨#[]⟩, .int .i64 0, .int .i64 0, .string ⟨#[]⟩, .string ⟨#[]⟩, .int .u8 0, .int .u8 0, .int .u8 0, .slice none 0 0, .slice none 0 0] 107))
    rw [e1] at this
    exact this
  have keep : ∀ {g : Nat} {l : List Int} {v : Value}, IntSl (((W0.alloc (.cells #[.int .i64 0] 3)).alloc (.cells #[.int .i64 0] 3)).alloc (.cells #[.bool false, .bool false, .string ⟨#[]⟩, .int .i64 0, .int .i64 0, .string ⟨#[]⟩, .string ⟨#[]⟩, .int .u8 0, .int .u8 0, .int .u8 0, .slice none 0 0, .slice none 0 0] 107)) v l → v.ownBlock ≠ some (W0.heap.size + 1 + 1) → IntSl ((((W0.alloc (.cells #[.int .i64 0] 3)).alloc (.cells #[.int .i64 0] 3)).alloc (.cells #[.bool false, .bool false, .string ⟨#[]⟩, .int .i64 0, .int .i64 0, .string ⟨#[]⟩, .string ⟨#[]⟩, .int .u8 0, .int .u8 0, .int .u8 0, .slice none 0 0, .slice none 0 0] 107)).setCells (W0.heap.size + 1 + 1) 0 (lstF d (.slice (some ⟨W0.heap.size, 0, none⟩) 1 1) (.slice (some ⟨W0.heap.size + 1, 0, none⟩) 1 1))) v l := by
    rintro _ l v ⟨g, cap, rfl, hg, hc⟩ hne
    refine ⟨g, cap, rfl, by rw [setCells_size]; exact hg, fun i hi => ?_⟩
    rw [World.cell?_setCells_out _ _ _ _ _ (fun e _ => absurd (by rw [← e]; rfl) hne)]
    exact hc i hi
  refine ⟨by omega, by omega, h3.setAll _ rfl, (h2.later bA).others (by omega) (by omega) _ _, (h1.later bA).others (by omega) (by omega) _ _, keep (g := 0) i1 ?_, keep (g := 0) i2 ?_⟩
  · intro e; have e : W0.heap.size = W0.heap.size + 1 + 1 := Option.some.inj e; omega
  · intro e; have e : W0.heap.size + 1 = W0.heap.size + 1 + 1 := Option.some.inj e; omega

theorem IntSl.set {W : World} {v u : Value} {l : List Int} {p k : Nat} (h : IntSl W v l) (hne : v.ownBlock ≠ some p) : IntSl (W.setCell ⟨p, k, none⟩ u) v l := by
  obtain ⟨g, cap, rfl, hg, hc⟩ := h
  refine ⟨g, cap, rfl, by show g < (W.heap.modify _ _).size; rw [Array.size_modify]; exact hg, fun i hi => ?_⟩
  rw [World.cell?_setCell_other _ _ _ _ (fun e => by injection e with e1 e2; exact hne (by rw [e1]; rfl))]
  exact hc i hi
theorem IntSl.sets {W : World} {v : Value} {l : List Int} {p k : Nat} {us : List Value} (h : IntSl W v l) (hne : v.ownBlock ≠ some p) : IntSl (W.setCells p k us) v l := by
  obtain ⟨g, cap, rfl, hg, hc⟩ := h
  refine ⟨g, cap, rfl, by rw [setCells_size]; exact hg, fun i hi => ?_⟩
  rw [World.cell?_setCells_out _ _ _ _ _ (fun e _ => absurd (by rw [← e]; rfl) hne)]
  exact hc i hi
/-- The two parts of a form that are slices lie elsewhere. -/
theorem Rw.apart {p : Nat} {vs : List Value} {w W : World} (h : Rw p vs w W) {v : Value} {l : List Int} (hv : IntSl W v l) {x : Value} (hx : vs[0]? = some x) (hne : ∀ n, x ≠ .int .i64 n) (hl : l ≠ []) : v.ownBlock ≠ some p := by
  obtain ⟨g, cap, rfl, hg, hc⟩ := hv
  intro e
  have e : g = p := Option.some.inj e
  subst e
  have h1 := h.cell 0 x hx
  have h2 := hc 0 (by cases l with | nil => exact absurd rfl hl | cons a b => simp)
  rw [h1] at h2
  exact hne _ (Option.some.inj h2)
theorem Dt.ms_season {d : Dt} (h : d.season ≠ 0) : d.ms = [d.season] := by unfold Dt.ms; rw [if_pos h]
theorem Dt.ms_fits {d : Dt} (h : d.season = 0) (h2 : d.mo.size ≠ 0) : d.ms = fitsL d.mo 12 := by unfold Dt.ms; rw [if_neg (by omega), if_neg h2]
theorem Dt.ms_none {d : Dt} (h : d.season = 0) (h2 : d.mo.size = 0) : d.ms = [0] := by unfold Dt.ms; rw [if_neg (by omega), if_pos h2]
theorem Dt.ds_fits {d : Dt} (h : d.da.size ≠ 0) : d.ds = fitsL d.da 31 := by unfold Dt.ds; rw [if_neg h]
theorem Dt.ds_none {d : Dt} (h : d.da.size = 0) : d.ds = [0] := by unfold Dt.ds; rw [if_pos h]
theorem Dt.ms_ne {d : Dt} (h : d.form = 0) : d.ms ≠ [] := by
  rcases form_facts h with ⟨h1, _⟩ | ⟨h1, h2, h3, _⟩ | ⟨h1, h2, _⟩
  · rw [Dt.ms_season h1]; simp
  · rw [Dt.ms_fits h1 h2]; exact (someA_facts (by omega) h3).2.2
  · rw [Dt.ms_none h1 h2]; simp
theorem Dt.ds_ne {d : Dt} (h : d.form = 0) : d.ds ≠ [] := by
  by_cases c : d.da.size = 0
  · rw [Dt.ds_none c]; simp
  · rw [Dt.ds_fits c]
    rcases form_facts h with ⟨_, _, h3⟩ | ⟨_, _, _, h3⟩ | ⟨_, _, h3⟩
    · exact absurd h3 c
    · rcases h3 with h3 | h3
      · exact absurd h3 c
      · exact (someA_facts (by omega) h3).2.2
    · exact absurd h3 c

set_option maxHeartbeats 4000000 in
theorem of_any (d : Dt) (w : World) (hk : WOk w) (hs : d.mo.size ≤ 1000) (hf : d.form = 0) :
    Calls Tryz.prog 77 #[dtv d] w (RetForm d w) := by
  have hS := fun W hb => season_any d W (hk.below (w' := W) hb) hs
  have hD : Rw w.heap.size (lstD d) w ((w.alloc (.cells #[.bool d.neg, .bool d.long, .string d.dg, .int .i64 d.ex, .int .i64 d.sig, .string d.mo, .string d.da, .int .u8 d.m0, .int .u8 d.m1, .int .u8 d.m2] 52)).alloc (.cells #[.bool false, .bool false, .string ⟨#[]⟩, .int .i64 0, .int .i64 0, .string ⟨#[]⟩, .string ⟨#[]⟩, .int .u8 0, .int .u8 0, .int .u8 0, .slice none 0 0, .slice none 0 0] 107)) := (Rw.fresh (Below.refl _ _) (lstD d) _).later (ba (Below.refl _ _) _)
  have hZ : Rw (w.heap.size + 1) lst0 w ((w.alloc (.cells #[.bool d.neg, .bool d.long, .string d.dg, .int .i64 d.ex, .int .i64 d.sig, .string d.mo, .string d.da, .int .u8 d.m0, .int .u8 d.m1, .int .u8 d.m2] 52)).alloc (.cells #[.bool false, .bool false, .string ⟨#[]⟩, .int .i64 0, .int .i64 0, .string ⟨#[]⟩, .string ⟨#[]⟩, .int .u8 0, .int .u8 0, .int .u8 0, .slice none 0 0, .slice none 0 0] 107)) := by
    have := Rw.fresh (ba (Below.refl w.heap.size w) (.cells #[.bool d.neg, .bool d.long, .string d.dg, .int .i64 d.ex, .int .i64 d.sig, .string d.mo, .string d.da, .int .u8 d.m0, .int .u8 d.m1, .int .u8 d.m2] 52)) lst0 107
    rw [alloc_size] at this
    exact this
  unfold dtv at hS
  obtain ⟨z, hz⟩ : ∃ z, z = decide (d.season = 0) := ⟨_, rfl⟩
  rw [← hz] at hS
  have HZ0 := Lib.hid hz
  clear hz
  have HS0 := Lib.hid hS
  have HNE := Lib.hid (⟨Dt.ms_ne hf, Dt.ds_ne hf⟩ : d.ms ≠ [] ∧ d.ds ≠ [])
  have HF := Lib.hid (form_facts hf)
  clear hS hf
  unfold dtv
  go_enter Tryz.func77, Tryz.ntmps77
  go_upto_region 1 with (fail)
  generalize (w.alloc (.cells #[.bool d.neg, .bool d.long, .string d.dg, .int .i64 d.ex, .int .i64 d.sig, .string d.mo, .string d.da, .int .u8 d.m0, .int .u8 d.m1, .int .u8 d.m2] 52)).alloc (.cells #[.bool false, .bool false, .string ⟨#[]⟩, .int .i64 0, .int .i64 0, .string ⟨#[]⟩, .string ⟨#[]⟩, .int .u8 0, .int .u8 0, .int .u8 0, .slice none 0 0, .slice none 0 0] 107) = W0 at hD hZ ⊢
  go_cut [3] (fun s3 wx => ∃ p3 mv dv, s3 = .pointer (some ⟨p3, 0, none⟩) ∧ p3 ≠ w.heap.size + 1 ∧ p3 ≠ w.heap.size ∧ Rw p3 (lstF d mv dv) w wx ∧ Rw (w.heap.size + 1) lst0 w wx ∧ Rw w.heap.size (lstD d) w wx ∧ IntSl wx mv [0] ∧ IntSl wx dv [0])
  case first =>
    obtain ⟨hT, hN⟩ := form_new d hD hZ
    have HN := Lib.hid (hN _ _ rfl rfl _ rfl)
    obtain ⟨q0, q1, q2, q3, q4, q5, q6, q7, q8, q9⟩ := hD.dcells
    clear hN hZ hD HF HS0
    go_wp2_with (first
      | (refine wpList_store_mid rfl 107 (.tmp 3) (.tmp 9) rfl (W0.heap.size + 1 + 1) 0 (lstF d (.slice (some ⟨W0.heap.size, 0, none⟩) 1 1) (.slice (some ⟨W0.heap.size + 1, 0, none⟩) 1 1)).toArray rfl rfl hT info_form (one12 d rfl rfl) ?_))
    go_meet
    obtain ⟨g1, g2, g3, g4, g5, g6, g7⟩ := HN.out
    exact ⟨_, _, _, rfl, g1, g2, g3, g4, g5, g6, g7⟩
  case rest =>
    obtain ⟨p3, mv, dv, rfl, n1, n2, hP, hZ, hD, hm, hv⟩ := hcut
    obtain ⟨q0, q1, q2, q3, q4, q5, q6, q7, q8, q9⟩ := hD.dcells
    have N1 := Lib.hid n1; have N2 := Lib.hid n2
    clear n1 n2
    go_upto_if 15 with (go_at_call 108; with_reducible refine (HS0.out _ hD.below).mono ?_; rintro _ w2 ⟨rfl, hb⟩; replace hP := hP.later hb; replace hZ := hZ.later hb; replace hD := hD.later hb; replace hm := hm.later hb; replace hv := hv.later hb; clear hb)
    clear q0 q1 q2 q3 q4 q5 q6 q7 q8 q9 HS0
    obtain ⟨q0, q1, q2, q3, q4, q5, q6, q7, q8, q9⟩ := hD.dcells
    go_cut [] (fun wx => ∃ mv2, Rw p3 (lstF d mv2 dv) w wx ∧ Rw (w.heap.size + 1) lst0 w wx ∧ Rw w.heap.size (lstD d) w wx ∧ IntSl wx mv2 d.ms ∧ IntSl wx dv [0])
    case first =>
      have hc10 : w2.cell? ⟨p3, 10, none⟩ = some mv := hP.cell 10 _ rfl
      have hf10 := hP.free 10 (by show 10 < 12; omega)
      rcases HF.out with ⟨h1, h2, h3⟩ | ⟨h1, h2, h3, h4⟩ | ⟨h1, h2, h3⟩
      · obtain rfl : z = false := HZ0.out.trans (decide_eq_false h1)
        have hms := Dt.ms_season h1
        have es : (w2.setCell ⟨p3, 10, none⟩ (.slice (some ⟨w2.heap.size, 0, none⟩) 1 1)).heap.size = w2.heap.size := by simp [World.setCell]
        have av := hP.apart hv rfl (fun n e => by cases e) (by simp)
        have bl := ba (Below.refl (w2.setCell ⟨p3, 10, none⟩ (.slice (some ⟨w2.heap.size, 0, none⟩) 1 1)).heap.size (w2.setCell ⟨p3, 10, none⟩ (.slice (some ⟨w2.heap.size, 0, none⟩) 1 1))) (.cells #[.int .i64 d.season] 3)
        have hX : Rw p3 (lstF d (.slice (some ⟨w2.heap.size, 0, none⟩) 1 1) dv) w _ := (hP.set 10 (by show 10 < 12; omega) (.slice (some ⟨w2.heap.size, 0, none⟩) 1 1)).later bl
        have hX2 : IntSl ((w2.setCell ⟨p3, 10, none⟩ (.slice (some ⟨w2.heap.size, 0, none⟩) 1 1)).alloc (.cells #[.int .i64 d.season] 3)) (.slice (some ⟨(w2.setCell ⟨p3, 10, none⟩ (.slice (some ⟨w2.heap.size, 0, none⟩) 1 1)).heap.size, 0, none⟩) 1 1) [d.season] := IntSl.lit (w := w) d.season
        rw [es] at hX2
        have hX3 := (hv.set (k := 10) (u := .slice (some ⟨w2.heap.size, 0, none⟩) 1 1) av).later bl
        have hX4 := (hZ.other N1.out hP.new 10 (.slice (some ⟨w2.heap.size, 0, none⟩) 1 1)).later bl
        have hX5 := (hD.other N2.out hP.new 10 (.slice (some ⟨w2.heap.size, 0, none⟩) 1 1)).later bl
        rw [← hms] at hX2
        have HX := Lib.hid (⟨hX, hX4, hX5, hX2, hX3⟩ : _ ∧ _ ∧ _ ∧ _ ∧ _)
        have hlt := hP.lt
        clear hms hX hX2 hX3 hX4 hX5 av bl es h1 h2 h3 HF hP hZ hD hm hv
        go_wp2
        go_meet
        exact ⟨_, HX.out⟩
      · obtain rfl : z = true := HZ0.out.trans (decide_eq_true h1)
        have hms := Dt.ms_fits h1 h2
        obtain ⟨s2, sx, sn⟩ := someA_facts (by omega) h3
        have HFi := Lib.hid (fun w => fits_any d.mo 12 w s2 sx (by omega) sn)
        have m0 := emp_no h2
        have HMS := Lib.hid hms
        have SN := Lib.hid sn
        clear hms h1 h2 h3 h4 s2 sx sn HF
        generalize fitsL d.mo 12 = L at *
        go_wp2_with fail
        refine (HFi.out _).mono ?_; rintro _ w4 ⟨v, rfl, hi, hb⟩
        clear hc10 hf10
        replace hP := hP.later hb; replace hZ := hZ.later hb; replace hD := hD.later hb; replace hm := hm.later hb; replace hv := hv.later hb; clear hb
        have hc10 : w4.cell? ⟨p3, 10, none⟩ = some mv := hP.cell 10 _ rfl
        have hf10 := hP.free 10 (by show 10 < 12; omega)
        have hl : L ≠ [] := SN.out
        have ap := hP.apart hi rfl (fun n e => by cases e) hl
        have hX : Rw p3 (lstF d v dv) w _ := hP.set 10 (by show 10 < 12; omega) v
        have hX2 := hi.set (k := 10) (u := v) ap
        rw [← HMS.out] at hX2
        have av := hP.apart hv rfl (fun n e => by cases e) (by simp)
        have hX3 := hv.set (k := 10) (u := v) av
        have HX := Lib.hid (⟨hX, hZ.other N1.out hP.new 10 v, hD.other N2.out hP.new 10 v, hX2, hX3⟩ : _ ∧ _ ∧ _ ∧ _ ∧ _)
        obtain ⟨g, cap, rfl, _⟩ := hi
        clear hX hX2 hX3 ap av hP hZ hD hm hv
        go_wp2
        go_meet
        exact ⟨_, HX.out⟩
      · obtain rfl : z = true := HZ0.out.trans (decide_eq_true h1)
        have hms := Dt.ms_none h1 h2
        rw [← hms] at hm
        have m0 := emp_yes h2
        have HX := Lib.hid (⟨hP, hZ, hD, hm, hv⟩ : _ ∧ _ ∧ _ ∧ _ ∧ _)
        clear hms h1 h2 h3 HF hP hZ hD hm hv
        go_wp2
        go_meet
        exact ⟨_, HX.out⟩
    case rest =>
      obtain ⟨mv2, hP, hZ, hD, hm, hv⟩ := hcut
      clear q0 q1 q2 q3 q4 q5 q6 q7 q8 q9
      obtain ⟨q0, q1, q2, q3, q4, q5, q6, q7, q8, q9⟩ := hD.dcells
      obtain ⟨de, hde⟩ : ∃ z, d.da.toList.isEmpty = z := ⟨_, rfl⟩
      have HDE : Hid ((de = true ∧ d.da.size = 0) ∨ (de = false ∧ ¬ d.da.size = 0)) := Lib.hid (by
        rcases emp_cases d.da with ⟨c, e1⟩ | ⟨c, e1⟩
        · exact .inl ⟨hde.symm.trans e1, c⟩
        · exact .inr ⟨hde.symm.trans e1, c⟩)
      go_upto_if 28 with (fail)
      clear hde
      go_cut [] (fun wx => ∃ dv2, Rw p3 (lstF d mv2 dv2) w wx ∧ Rw (w.heap.size + 1) lst0 w wx ∧ IntSl wx mv2 d.ms ∧ IntSl wx dv2 d.ds)
      case first =>
        have hc11 : wc.cell? ⟨p3, 11, none⟩ = some dv := hP.cell 11 _ rfl
        have hf11 := hP.free 11 (by show 11 < 12; omega)
        rcases HDE.out with ⟨rfl, c⟩ | ⟨rfl, c⟩
        · rw [← Dt.ds_none c] at hv
          have HX := Lib.hid (⟨hP, hZ, hm, hv⟩ : _ ∧ _ ∧ _ ∧ _)
          clear hP hZ hD hm hv c HF HZ0
          go_wp2
          go_meet
          exact ⟨_, HX.out⟩
        · have h4 : someA d.da 31 = true := by
            rcases HF.out with ⟨_, _, h⟩ | ⟨_, _, _, h⟩ | ⟨_, _, h⟩
            · exact absurd h c
            · rcases h with h | h
              · exact absurd h c
              · exact h
            · exact absurd h c
          obtain ⟨s2, sx, sn⟩ := someA_facts (by omega) h4
          have HFi := Lib.hid (fun w => fits_any d.da 31 w s2 sx (by omega) sn)
          have HDS := Lib.hid (Dt.ds_fits c)
          have SN := Lib.hid sn
          have MN := Lib.hid (⟨hm, by
            rcases HF.out with ⟨h, _, _⟩ | ⟨h, h2, h3, _⟩ | ⟨h, h2, _⟩
            · rw [Dt.ms_season h]; simp
            · rw [Dt.ms_fits h h2]; exact (someA_facts (by omega) h3).2.2
            · rw [Dt.ms_none h h2]; simp⟩ : IntSl wc mv2 d.ms ∧ d.ms ≠ [])
          clear h4 s2 sx sn c HF HZ0
          generalize fitsL d.da 31 = L at *
          go_wp2_with fail
          refine (HFi.out _).mono ?_; rintro _ w4 ⟨v, rfl, hi, hb⟩
          clear hc11 hf11
          have hm2 := MN.out.1.later hb
          have mne := MN.out.2
          clear MN hm
          replace hP := hP.later hb; replace hZ := hZ.later hb; clear hb hD hv
          have hc11 : w4.cell? ⟨p3, 11, none⟩ = some dv := hP.cell 11 _ rfl
          have hf11 := hP.free 11 (by show 11 < 12; omega)
          have ap := hP.apart hi rfl (fun n e => by cases e) SN.out
          have am := hP.apart hm2 rfl (fun n e => by cases e) mne
          have hX : Rw p3 (lstF d mv2 v) w _ := hP.set 11 (by show 11 < 12; omega) v
          have hX2 := hi.set (k := 11) (u := v) ap
          rw [← HDS.out] at hX2
          have HX := Lib.hid (⟨hX, hZ.other N1.out hP.new 11 v, hm2.set (k := 11) (u := v) am, hX2⟩ : _ ∧ _ ∧ _ ∧ _)
          obtain ⟨g, cap, rfl, _⟩ := hi
          clear hX hX2 ap am hP hZ hm2 mne
          go_wp2
          go_meet
          exact ⟨_, HX.out⟩
      case rest =>
        obtain ⟨dv2, hP, hZ, hm, hv⟩ := hcut
        clear q0 q1 q2 q3 q4 q5 q6 q7 q8 q9
        have hR := hP.range
        have hT := hZ.there
        have o1 := one12 d hm.one' hv.one'
        have hX := hZ.setAll (lstF d mv2 dv2) rfl
        have hr := run_loadVar_mid (P := Tryz.prog) _ _ 0 107 (lstF d mv2 dv2) _ hX.range Tryz.underlying107 rfl info_form
        have HX := Lib.hid (⟨hm.sets (k := 0) (us := lstF d mv2 dv2) (hZ.apart hm rfl (fun n e => by cases e) HNE.out.1), hv.sets (k := 0) (us := lstF d mv2 dv2) (hZ.apart hv rfl (fun n e => by cases e) HNE.out.2), hX.below⟩ : _ ∧ _ ∧ _)
        replace hr := Lib.hid hr
        clear hX hP hZ hm hv HF HZ0
        go_wp2_with (first
          | (refine wpList_load_mid rfl 107 (.tmp 3) rfl p3 0 rfl (lstF d mv2 dv2) _ hR Tryz.underlying107 rfl info_form ?_)
          | (refine wpList_store_mid rfl 107 (.tmp 2) (.tmp 33) rfl (w.heap.size + 1) 0 (lstF d mv2 dv2).toArray rfl rfl hT info_form o1 ?_))
        exact bodyPost_ret (v := .agg (lstF d mv2 dv2).toArray) (results_lone Tryz.results77 _ rfl hr.out) rfl ⟨mv2, dv2, rfl, HX.out⟩
end Bk
end Go.Proofs.YtipjmaimjchckaaGreatDoor

/-! THE WALKS of package fillings: length, year. -/
set_option linter.unusedSimpArgs false
set_option linter.unusedVariables false
set_option maxRecDepth 100000
namespace Go.Proofs.YtipjmaimjchckaaGreatDoor
open Go.RowKit Go.Lib
namespace Bk
open Un (ba bt ri rb ret2_ii ret2_bi)

theorem monthsLen_any (y m : Int) (w : World) (hk : WOk w) (h0 : -10000000000000000 ≤ y) (h1 : y ≤ 10000000000000000) (m0 : 1 ≤ m) (m1 : m ≤ 12) :
    Calls Tryz.prog 139 #[.int .i64 y, .int .i64 m] w fun e w' => e = .returned (.tuple #[.int .i64 (Cal.len y m), .int .i64 0]) ∧ Below w.heap.size w w' := by
  have HC : Hid (∀ w : World, Calls Tryz.prog 133 #[.int .i64 y, .int .i64 m] w fun e w' => e = .returned (.int .i64 0) ∧ w = w') := Lib.hid (by
    intro w; have := Un.monthsCheck_any y m w
    unfold Un.mErr at this; rw [if_pos ⟨h0, h1⟩, if_pos ⟨m0, m1⟩] at this; exact this)
  have HL := Lib.hid (Un.length_any y m w hk.cal h0 h1 m0 m1)
  generalize Cal.len y m = n at *
  clear hk
  go_enter Tryz.func139, Tryz.ntmps139
  go_wp2_with (first | (go_at_call 133; with_reducible refine (HC.out _).mono ?_; rintro _ w' ⟨rfl, rfl⟩) | (go_at_call 105; with_reducible refine HL.out.mono ?_; rintro _ w' ⟨rfl, hb⟩))
  go_ret2
  exact ⟨rfl, hb⟩

/-- A form's value. -/
def fmv (d : Dt) (mv dv : Value) : Value := .agg #[.bool d.neg, .bool d.long, .string d.dg, .int .i64 d.ex, .int .i64 d.sig, .string d.mo, .string d.da, .int .u8 d.m0, .int .u8 d.m1, .int .u8 d.m2, mv, dv]
theorem fmv_eq (d : Dt) (mv dv : Value) : .agg (lstF d mv dv).toArray = fmv d mv dv := rfl

theorem formLen_any (d : Dt) (mv dv : Value) (y m : Int) (w : World) (hk : WOk w) (h0 : -10000000000000000 ≤ y) (h1 : y ≤ 10000000000000000) (hm : d.da.size ≠ 0 → 1 ≤ m ∧ m ≤ 12) :
    Calls Tryz.prog 118 #[fmv d mv dv, .int .i64 y, .int .i64 m] w fun e w' => e = .returned (.int .i64 (d.len y m)) ∧ Below w.heap.size w w' := by
  have hF : Rw w.heap.size (lstF d mv dv) w _ := Rw.fresh (Below.refl _ _) (lstF d mv dv) 107
  have q6 := hF.cell 6 _ rfl
  have HB := Lib.hid hF.below
  clear hF
  unfold fmv
  unfold lstF at q6 HB
  unfold Dt.len
  rcases emp_cases d.da with ⟨c, e1⟩ | ⟨c, e1⟩
  · rw [if_pos c]
    clear c
    go_enter Tryz.func118, Tryz.ntmps118
    go_wp2
    go_ret
    exact ⟨rfl, HB.out⟩
  · rw [if_neg c]
    obtain ⟨m0, m1⟩ := hm c
    have HL := Lib.hid (fun W hb => monthsLen_any y m W (hk.below (w' := W) hb) h0 h1 m0 m1)
    generalize Cal.len y m = n at *
    clear c
    go_enter Tryz.func118, Tryz.ntmps118
    go_wp2_with (go_at_call 139; with_reducible refine (HL.out _ HB.out).mono ?_; rintro _ w' ⟨rfl, hb⟩)
    go_ret
    exact ⟨rfl, bt HB.out hb⟩

theorem yearPlain {d : Dt} {n : Int} (hm : d.mask = false) : d.Year n (yVal d.neg d.dg d.ex) (decide (n ≤ yVal d.neg d.dg d.ex)) := by
  have hin : ∀ u, d.In u ↔ u = yVal d.neg d.dg d.ex := fun u => by
    unfold Dt.In yVal Dt.mag
    rw [if_neg (by rw [hm]; decide)]
  by_cases c : n ≤ yVal d.neg d.dg d.ex
  · exact .inl ⟨decide_eq_true c, (hin _).2 rfl, c, fun u hu _ => by rw [(hin u).1 hu]; exact Int.le_refl _⟩
  · exact .inr ⟨decide_eq_false c, fun u hu h => by rw [(hin u).1 hu] at h; exact c h⟩
theorem yearUp {d : Dt} {n v : Int} {ok : Bool} (hm : d.mask = true) (hn : d.neg = false) (h : UpR (byt d.dg) n 0 v ok) : d.Year n v ok := by
  have hin : ∀ u, d.In u ↔ Mat (byt d.dg) u := fun u => by
    unfold Dt.In
    rw [if_pos hm, if_neg (by rw [hn]; decide)]
  rcases h.2.2 with ⟨h1, h2, h3, _, h4⟩ | ⟨h1, h2⟩
  · exact .inl ⟨h1, (hin _).2 h2, h3, fun u hu hl => h4 u ((hin u).1 hu) hl ((hin u).1 hu).1⟩
  · exact .inr ⟨h1, fun u hu hl => by have := h2 u ((hin u).1 hu) ((hin u).1 hu).1; omega⟩
theorem yearDn {d : Dt} {n v : Int} {ok : Bool} (hm : d.mask = true) (hn : d.neg = true) (h : DnR (byt d.dg) (-(max n (-9223372036854775807))) 1 v ok) : d.Year n (-v) ok := by
  have hin : ∀ u, d.In u ↔ (Mat (byt d.dg) (-u) ∧ u ≠ 0) := fun u => by
    unfold Dt.In
    rw [if_pos hm, if_pos hn]
  rcases h.2.2 with ⟨h1, h2, h3, h5, h4⟩ | ⟨h1, h2⟩
  · refine .inl ⟨h1, (hin _).2 ⟨by rw [Int.neg_neg]; exact h2, by omega⟩, by omega, fun u hu hl => ?_⟩
    obtain ⟨g1, g2⟩ := (hin u).1 hu
    have := h4 (-u) g1 (by have := g1.2.1; omega)
    omega
  · refine .inr ⟨h1, fun u hu hl => ?_⟩
    obtain ⟨g1, g2⟩ := (hin u).1 hu
    have := h2 (-u) g1 (by have := g1.2.1; omega)
    have := g1.1
    omega

set_option maxHeartbeats 4000000 in
theorem formYear_any (d : Dt) (mv dv : Value) (n : Int) (w : World) (hy : d.dg.size ≤ 1000) (hok : d.yok = true) (n0 : -9223372036854775808 ≤ n) (n1 : n < 9223372036854775808) :
    Calls Tryz.prog 117 #[fmv d mv dv, .int .i64 n, .bool true] w (RetIB (fun v ok => d.Year n v ok) w) := by
  have hF : Rw w.heap.size (lstF d mv dv) w _ := Rw.fresh (Below.refl _ _) (lstF d mv dv) 107
  unfold lstF at hF
  have hM := fun W => yMasked_any d.neg d.long d.dg d.ex d.sig W
  unfold yv at hM
  unfold Dt.yok at hok
  unfold fmv
  go_enter Tryz.func117, Tryz.ntmps117
  go_upto_region 1 with (fail)
  generalize w.alloc _ = W0 at hF ⊢
  obtain ⟨r0, r1, r2, r3, r4⟩ := (⟨hF.cell 0 _ rfl, hF.cell 1 _ rfl, hF.cell 2 _ rfl, hF.cell 3 _ rfl, hF.cell 4 _ rfl⟩ : _ ∧ _ ∧ _ ∧ _ ∧ _)
  have HB0 := Lib.hid hF.below
  clear hF
  go_upto_region 2 with (fail)
  have hY := Ym.new d.neg d.long d.dg d.ex d.sig W0 49
  generalize W0.alloc _ = W1 at hY ⊢
  clear r0 r1 r2 r3 r4
  obtain ⟨q0, q1, q2, q3, q4, qB⟩ := id hY
  cases hx : hasB 88 d.dg
  · rw [hx] at hM
    have HM := Lib.hid hM
    have hV := fun W => yValue_any d.neg d.long d.dg d.ex d.sig W hy hok hx
    unfold yv at hV
    have HV := Lib.hid hV
    have HP := Lib.hid (yearPlain (d := d) (n := n) (by unfold Dt.mask; exact hx))
    have hb := yVal_bd hok hx
    clear hM hV hok hx
    generalize yVal d.neg d.dg d.ex = v at *
    go_wp2_with fail
    refine (HM.out _).mono ?_; rintro _ w1 ⟨rfl, hb⟩
    replace hY := hY.later hb; clear hb; obtain ⟨q0, q1, q2, q3, q4, qB⟩ := id hY
    go_wp2_with fail
    refine (HV.out _).mono ?_; rintro _ w2 ⟨rfl, hb⟩
    replace hY := hY.later hb; clear hb; obtain ⟨q0, q1, q2, q3, q4, qB⟩ := id hY
    have HB2 := Lib.hid (bt HB0.out hY.below)
    by_cases cn : n ≤ v
    · rw [decide_eq_true cn] at HP
      go_wp2_with fail
      go_ret2
      exact ⟨_, _, HP.out, rfl, HB2.out⟩
    · go_wp2_with fail
      go_ret2
      exact ⟨_, _, HP.out, rfl, HB2.out⟩
  · have hs : d.long = false ∧ d.dg.size = 4 ∧ allB isDigX d.dg = true := by
      rcases Bool.eq_false_or_eq_true d.long with hl | hl
      case inr =>
        rw [hl] at hok
        obtain ⟨h1, h2, _⟩ := yOk_short hok
        exact ⟨hl, h1, h2⟩
      case inl =>
        rw [hl] at hok
        have hd := (yOk_long hok).2.2.1
        have := (dig_iff (dig_digX hd)).2 hd
        rw [hx] at this; cases this
    obtain ⟨-, h4, hdx⟩ := hs
    rw [hx] at hM
    have HM := Lib.hid hM
    have hmk : d.mask = true := by unfold Dt.mask; exact hx
    rcases Bool.eq_false_or_eq_true d.neg with hn | hn
    case inr =>
      as_aux_lemma =>
        have HU := Lib.hid (fun w => maskedUp_any d.dg n w h4 hdx n0 n1)
        have HP := Lib.hid (fun v ok h => yearUp (n := n) (v := v) (ok := ok) hmk hn h)
        have HN := Lib.hid hn
        clear hM hok hx h4 hdx hmk hn
        go_wp2_with fail
        refine (HM.out _).mono ?_; rintro _ w1 ⟨rfl, hb⟩
        replace hY := hY.later hb; clear hb; obtain ⟨q0, q1, q2, q3, q4, qB⟩ := id hY
        rw [HN.out] at q0
        go_wp2_with fail
        refine (HU.out _).mono ?_; rintro _ w2 ⟨v, ok, hU, rfl, hb⟩
        have HP2 := Lib.hid (HP.out _ _ hU)
        have HB2 := Lib.hid (bt (bt HB0.out hY.below) hb)
        clear hb hU
        go_wp2_with fail
        go_ret2
        exact ⟨_, _, HP2.out, rfl, HB2.out⟩
    case inl =>
      as_aux_lemma =>
        have HU := Lib.hid (fun w => maskedDn_any d.dg (-(max n (-9223372036854775807))) w h4 hdx)
        have HP := Lib.hid (fun v ok h => yearDn (n := n) (v := v) (ok := ok) hmk hn h)
        have HN := Lib.hid hn
        clear hM hok hx h4 hdx hmk hn
        go_wp2_with fail
        refine (HM.out _).mono ?_; rintro _ w1 ⟨rfl, hb⟩
        replace hY := hY.later hb; clear hb; obtain ⟨q0, q1, q2, q3, q4, qB⟩ := id hY
        rw [HN.out] at q0
        go_wp2_with fail
        refine (HU.out _).mono ?_; rintro _ w2 ⟨v, ok, hU, rfl, hb⟩
        have HP2 := Lib.hid (HP.out _ _ hU)
        have hw : wrap64 (-v) = -v := by
          have g0 := hU.1
          have g1 := hU.2.1
          unfold wrap64; omega
        have HB2 := Lib.hid (bt (bt HB0.out hY.below) hb)
        clear hb hU
        go_wp2_with fail
        rw [hw]
        go_ret2
        exact ⟨_, _, HP2.out, rfl, HB2.out⟩
end Bk
end Go.Proofs.YtipjmaimjchckaaGreatDoor

/-! THE WALK of fillings.seek, upwards. -/
set_option linter.unusedSimpArgs false
set_option linter.unusedVariables false
set_option maxRecDepth 100000
namespace Go.Proofs.YtipjmaimjchckaaGreatDoor
open Go.RowKit Go.Lib
namespace Bk
open Un (ba bt ri rb ret2_ii ret2_bi)

/-- The closure `ahead`. -/
theorem ahead_any (a b : Int) (p : Nat) (w : World) (hc : w.cell? ⟨p, 0, none⟩ = some (.bool true)) :
    Calls Tryz.prog 116 #[.int .i64 a, .int .i64 b, .pointer (some ⟨p, 0, none⟩)] w fun r w' => r = .returned (.bool (decide (a < b))) ∧ w = w' := by
  go_enter Tryz.func116, Tryz.ntmps116
  by_cases c : a < b
  · rw [decide_eq_true c]
    go_wp2_with fail
    go_ret
    exact ⟨rfl, rfl⟩
  · rw [decide_eq_false c]
    go_wp2_with fail
    go_ret
    exact ⟨rfl, rfl⟩

def cvv (y m k : Int) : Value := .agg #[.int .i64 y, .int .i64 m, .int .i64 k]
def lstC (y m k : Int) : List Value := [.int .i64 y, .int .i64 m, .int .i64 k]
def RetSought (d : Dt) (cy cm ck : Int) (w : World) (e : Ending) (w' : World) : Prop := ∃ y m k ok, d.Sought cy cm ck y m k ok ∧ e = .returned (.tuple #[cvv y m k, .bool ok]) ∧ Below w.heap.size w w'

/-- The blocks of seek. -/
structure Sk (d : Dt) (mv dv : Value) (cy cm ck : Int) (p3 p4 p5 p6 : Nat) (w W : World) : Prop where
  f : Rw p3 (lstF d mv dv) w W
  c : Rw p4 (lstC cy cm ck) w W
  u : Rw p5 [.bool true] w W
  o : Rw p6 (lstC 0 0 0) w W
  m : IntSl W mv d.ms
  d : IntSl W dv d.ds
theorem Sk.later {d : Dt} {mv dv : Value} {cy cm ck : Int} {p3 p4 p5 p6 : Nat} {w W W2 : World} (h : Sk d mv dv cy cm ck p3 p4 p5 p6 w W) (hb : Below W.heap.size W W2) : Sk d mv dv cy cm ck p3 p4 p5 p6 w W2 :=
  ⟨h.f.later hb, h.c.later hb, h.u.later hb, h.o.later hb, h.m.later hb, h.d.later hb⟩
theorem Sk.new (d : Dt) {mv dv : Value} (cy cm ck : Int) (w : World) (t1 t2 t3 t4 : TypeId) (hm : IntSl w mv d.ms) (hd : IntSl w dv d.ds) :
    Sk d mv dv cy cm ck w.heap.size (w.heap.size + 1) (w.heap.size + 1 + 1) (w.heap.size + 1 + 1 + 1) w ((((w.alloc (.cells (lstF d mv dv).toArray t1)).alloc (.cells (lstC cy cm ck).toArray t2)).alloc (.cells #[.bool true] t3)).alloc (.cells (lstC 0 0 0).toArray t4)) := by
  have f1 := Rw.fresh (Below.refl w.heap.size w) (lstF d mv dv) t1
  have f2 := Rw.fresh f1.below (lstC cy cm ck) t2
  have f3 := Rw.fresh f2.below [.bool true] t3
  have f4 := Rw.fresh f3.below (lstC 0 0 0) t4
  simp only [alloc_size] at f2 f3 f4
  refine ⟨?_, ?_, ?_, f4, ?_, ?_⟩
  · exact ((f1.later (ba (Below.refl _ _) _)).later (ba (Below.refl _ _) _)).later (ba (Below.refl _ _) _)
  · exact (f2.later (ba (Below.refl _ _) _)).later (ba (Below.refl _ _) _)
  · exact f3.later (ba (Below.refl _ _) _)
  · exact hm.later f4.below
  · exact hd.later f4.below

theorem seek_ge {d : Dt} {v m k cy cm ck : Int} {s2 : Bool} (hmd : d.mo.size = 0 → d.da.size = 0) (hle : cy ≤ v) (hns : ¬ (v = cy ∧ d.mo.size ≠ 0 ∧ m < cm)) (h2 : s2 = true ↔ v = cy ∧ (d.mo.size = 0 ∨ m = cm)) :
    d.ge v m k cy cm ck ↔ ¬ (s2 = true ∧ d.da.size ≠ 0 ∧ k < ck) := by
  unfold Dt.ge
  rw [h2]
  by_cases c : cy < v
  · exact ⟨fun _ h => by omega, fun _ => .inl c⟩
  · have e : v = cy := by omega
    constructor
    · rintro (h | ⟨_, h⟩) ⟨⟨_, g1⟩, g2, g3⟩
      · exact c h
      · have : d.mo.size ≠ 0 := fun h => g2 (hmd h)
        omega
    · intro h
      refine .inr ⟨e, ?_⟩
      by_cases c1 : d.mo.size = 0
      · exact .inl c1
      · by_cases c2 : m = cm
        · refine .inr (.inr ⟨c2, ?_⟩)
          by_cases c3 : d.da.size = 0
          · exact .inl c3
          · right
            by_cases c4 : k < ck
            · exact absurd ⟨⟨e, .inr c2⟩, c3, c4⟩ h
            · omega
        · right; left; omega

theorem IntSl.at {W : World} {g n cap : Nat} {l : List Int} (h : IntSl W (.slice (some ⟨g, 0, none⟩) n cap) l) : ∀ i (hi : i < l.length), W.cell? ⟨g, i, none⟩ = some (.int .i64 (l[i]'hi)) := by
  obtain ⟨g2, cap2, he, _, hc⟩ := h
  cases he
  exact hc
theorem info_civil : (Tryz.prog.info? 56).map (·.size) = some 3 := by kernel_rfl
theorem results_two {fn : Func} {p q : Tmp} {ty : TypeId} (h : fn.results = #[.cell p ty, .tmp q]) (tmps : Array Value) {P : Program} {w : World} {a : Addr} {v u : Value}
    (hp : tmps.getD p undef = .pointer (some a)) (hq : tmps.getD q undef = u) (hl : (loadVar ty a).run P w = .ok v w) : (results fn tmps).run P w = .ok (.tuple #[v, u]) w := by
  have hp' : tmps[p]?.getD undef = .pointer (some a) := by simpa using hp
  have hq' : tmps[q]?.getD undef = u := by simpa using hq
  simp [results, h, hp', hq', asAddr, hl]
theorem seek_ret {d : Dt} {cy cm ck y m k : Int} {ok : Bool} {p6 : Nat} {w wO : World} {tmps : Array Value} (ho : Rw p6 (lstC 0 0 0) w wO) (h : d.Sought cy cm ck y m k ok)
    (hp : tmps.getD 6 undef = .pointer (some ⟨p6, 0, none⟩)) (hq : tmps.getD 7 undef = .bool ok) :
    bodyPost Tryz.prog Tryz.f78 (RetSought d cy cm ck w) Exit.ret ⟨tmps, []⟩ (((wO.setCell ⟨p6, 0, none⟩ (.int .i64 y)).setCell ⟨p6, 1, none⟩ (.int .i64 m)).setCell ⟨p6, 2, none⟩ (.int .i64 k)) := by
  have hX := ho.setAll (lstC y m k) rfl
  have hr := run_loadVar_mid (P := Tryz.prog) _ p6 0 56 (lstC y m k) _ hX.range Tryz.underlying56 rfl info_civil
  exact bodyPost_ret (v := .tuple #[cvv y m k, .bool ok]) (results_two Tryz.results78 _ hp hq hr) rfl ⟨y, m, k, ok, h, rfl, hX.below⟩

def boolN : Value → Nat
  | .bool true => 1
  | _ => 0
def muY (y f : Value) : Nat := boolN f * (10000000000000002 - intOf y).toNat
/-- The state of the loop over years. -/
structure Yst (d : Dt) (cy cm ck : Int) (v : Int) (ok : Bool) : Prop where
  yes : ok = true → d.In v ∧ cy ≤ v ∧ d.NoY v cy cm ck
  no : ok = false → ∀ z n j, d.Fill z n j → ¬ d.ge z n j cy cm ck
theorem Yst.start {d : Dt} {cy cm ck v : Int} {ok : Bool} (h : d.Year cy v ok) : Yst d cy cm ck v ok := by
  have hs := Dt.noY_start (cm := cm) (ck := ck) h
  refine ⟨fun e => ?_, hs.2⟩
  rcases h with g | g
  · exact ⟨g.2.1, g.2.2.1, hs.1 e⟩
  · rw [g.1] at e; cases e
theorem Yst.next {d : Dt} {cy cm ck y v : Int} {ok : Bool} (hs : Yst d cy cm ck y true) (hm : d.NoM y cy cm ck d.ms.length) (h : d.Year (y + 1) v ok) : Yst d cy cm ck v ok ∧ (ok = true → y < v) := by
  obtain ⟨h1, h2, h3⟩ := hs.yes rfl
  have hn := Dt.noY_next h3 hm h
  rcases h with g | g
  · exact ⟨⟨fun e => ⟨g.2.1, by have := g.2.2.1; omega, hn.1 e⟩, hn.2⟩, fun _ => by have := g.2.2.1; omega⟩
  · refine ⟨⟨fun e => ?_, hn.2⟩, fun e => ?_⟩ <;> (rw [g.1] at e; cases e)

set_option maxHeartbeats 4000000 in
theorem seek_any (d : Dt) (mv dv : Value) (cy cm ck : Int) (w : World) (hk : WOk w) (hy : d.dg.size ≤ 1000) (hok : d.yok = true) (hmd : d.mo.size = 0 → d.da.size = 0)
    (y0 : -9223372036854775808 ≤ cy) (y1 : cy < 9223372036854775808) (hm : IntSl w mv d.ms) (hd : IntSl w dv d.ds) (hmm : d.da.size ≠ 0 → ∀ m, m ∈ d.ms → 1 ≤ m ∧ m ≤ 12) :
    Calls Tryz.prog 78 #[fmv d mv dv, cvv cy cm ck, .bool true] w (RetSought d cy cm ck w) := by
  obtain ⟨gm, xm, rfl, -, -⟩ := id hm
  obtain ⟨gd, xd, rfl, -, -⟩ := id hd
  have hS := Sk.new d cy cm ck w 107 56 4 56 hm hd
  have HY := Lib.hid (fun n W h0 h1 => formYear_any d (.slice (some ⟨gm, 0, none⟩) d.ms.length xm) (.slice (some ⟨gd, 0, none⟩) d.ds.length xd) n W hy hok h0 h1)
  have HL := Lib.hid (fun y m W hb h0 h1 hm => formLen_any d (.slice (some ⟨gm, 0, none⟩) d.ms.length xm) (.slice (some ⟨gd, 0, none⟩) d.ds.length xd) y m W (hk.below (w' := W) hb) h0 h1 hm)
  have HIN := Lib.hid (fun y (h : d.In y) => Dt.in_bd hok h)
  have HMM := Lib.hid hmm
  have HMD := Lib.hid hmd
  unfold fmv at HY HL
  unfold fmv cvv
  unfold lstF lstC at hS
  go_enter Tryz.func78, Tryz.ntmps78
  go_upto_region 1 with (fail)
  generalize World.alloc _ _ = W0 at hS ⊢
  generalize w.heap.size + 1 + 1 + 1 = p6 at *
  generalize w.heap.size + 1 + 1 = p5 at *
  generalize w.heap.size + 1 = p4 at *
  clear hk hy hok hm hd hmm hmd
  replace hS : Hid (Sk d (.slice (some ⟨gm, 0, none⟩) d.ms.length xm) (.slice (some ⟨gd, 0, none⟩) d.ds.length xd) cy cm ck w.heap.size p4 p5 p6 w W0) := Lib.hid hS
  have HB0 := Lib.hid hS.out.f.below
  go_cut [8, 9, 10] (fun a b c wx => a = .int .i64 1 ∧ .slice (some ⟨gm, 0, none⟩) d.ms.length xm = b ∧ .slice (some ⟨gd, 0, none⟩) d.ds.length xd = c ∧ Sk d b c cy cm ck w.heap.size p4 p5 p6 w wx)
  case first =>
    have f0 := hS.out.f.cell 10 _ rfl
    have f1 := hS.out.f.cell 11 _ rfl
    go_region_with (fail)
    all_goals (go_wp2_with fail)
    all_goals (go_meet; exact ⟨rfl, rfl, rfl, hS.out.later (Below.refl W0.heap.size W0).drew⟩)
  case rest =>
  obtain ⟨rfl, rfl, rfl, hS⟩ := hcut
  have hu := hS.u.cell 0 _ rfl
  have g0 := hS.c.cell 0 _ rfl
  have hR := hS.f.range
  replace hS := Lib.hid hS
  go_wp2_with (first
    | (refine wpList_load_mid rfl 107 (.tmp 3) rfl w.heap.size 0 rfl (lstF d (.slice (some ⟨gm, 0, none⟩) d.ms.length xm) (.slice (some ⟨gd, 0, none⟩) d.ds.length xd)) _ hR Tryz.underlying107 rfl info_form ?_)
    | (go_at_call 117; refine (HY.out _ _ y0 y1).mono ?_; rintro _ w1 ⟨v, ok, hv, rfl, hb⟩))
  replace hS : Hid (Sk d (.slice (some ⟨gm, 0, none⟩) d.ms.length xm) (.slice (some ⟨gd, 0, none⟩) d.ds.length xd) cy cm ck w.heap.size p4 p5 p6 w w1) := Lib.hid (hS.out.later hb)
  have HV0 : Hid (Yst d cy cm ck v ok) := Lib.hid (Yst.start hv)
  clear hu g0 hR hv hb HB0
  go_loopw [7, 12, 13] (fun r y f wr => ∃ v ok, r = .bool false ∧ y = .int .i64 v ∧ f = .bool ok ∧ Yst d cy cm ck v ok ∧ Sk d (.slice (some ⟨gm, 0, none⟩) d.ms.length xm) (.slice (some ⟨gd, 0, none⟩) d.ds.length xd) cy cm ck w.heap.size p4 p5 p6 w wr) (fun _ y f _ => muY y f)
  case atStart => exact ⟨v, ok, rfl, rfl, rfl, HV0.out, hS.out⟩
  case round =>
    obtain ⟨v, ok, rfl, rfl, rfl, hV, hS⟩ := hrel
    generalize wr = wO at *
    have HV := Lib.hid hV
    have HS := Lib.hid hS
    clear hV hS
    cases ok
    · have HN := Lib.hid (HV.out.no rfl)
      have f0 := HS.out.o.cell 0 _ rfl
      have f1 := HS.out.o.cell 1 _ rfl
      have f2 := HS.out.o.cell 2 _ rfl
      have z0 := HS.out.o.free 0 (by unfold lstC; simp)
      have z1 := HS.out.o.free 1 (by unfold lstC; simp)
      have z2 := HS.out.o.free 2 (by unfold lstC; simp)
      go_wp2_with fail
      exact seek_ret HS.out.o (.inr ⟨rfl, rfl, rfl, rfl, HN.out⟩) rfl rfl
    · obtain ⟨i1, i2, i3⟩ := HV.out.yes rfl
      have HIV := Lib.hid (HIN.out _ i1)
      have HLE := Lib.hid i2
      clear i1 i2 i3
      go_wp2_with fail
      go_step3
      go_wp2_with fail
      go_step3
      go_wp2_with fail
      have HM0 := Lib.hid (Dt.noM_zero d v cy cm ck)
      go_loopw [7, 55] (fun r i wr => ∃ i' : Nat, r = .bool false ∧ i = .int .i64 i' ∧ i' ≤ d.ms.length ∧ d.NoM v cy cm ck i' ∧ Sk d (.slice (some ⟨gm, 0, none⟩) d.ms.length xm) (.slice (some ⟨gd, 0, none⟩) d.ds.length xd) cy cm ck w.heap.size p4 p5 p6 w wr) (fun _ i _ => d.ms.length - (intOf i).toNat)
      case atStart => exact ⟨0, rfl, rfl, by omega, HM0.out, HS.out⟩
      case round =>
        obtain ⟨i, rfl, rfl, hi, hM, hS⟩ := hrel
        clear HS HM0
        generalize wr = wO at *
        have HS := Lib.hid hS
        have HM := Lib.hid hM
        clear hS hM
        have ml := d.ms_len
        by_cases hlt : i < d.ms.length
        · have hcell := HS.out.m.at i hlt
          generalize hme : d.ms[i]'hlt = m at hcell
          have g0 := HS.out.c.cell 0 _ rfl
          go_upto_region 13 with (fail)
          go_cut [16] (fun s wx => ∃ b, s = .bool b ∧ (b = true ↔ v = cy) ∧ wO = wx)
          case first =>
            go_wp2_with fail
            go_meet
            exact ⟨_, rfl, by simp, rfl⟩
          case rest =>
            obtain ⟨sb, rfl, hsb, rfl⟩ := hcut
            have HSB := Lib.hid hsb
            clear hsb g0 hcell
            go_upto_region 14 with (fail)
            go_cut [76] (fun s wx => ∃ b, s = .bool b ∧ (b = true ↔ (v = cy ∧ d.mo.size ≠ 0 ∧ m < cm)) ∧ wO = wx)
            case first =>
              have g5 := HS.out.f.cell 5 _ rfl
              have g1 := HS.out.c.cell 1 _ rfl
              have hu := HS.out.u.cell 0 _ rfl
              have HA := Lib.hid (ahead_any m cm p5 wO hu)
              cases sb
              · have hne : v ≠ cy := fun e => by have := HSB.out.2 e; cases this
                go_wp2_with fail
                go_meet
                exact ⟨_, rfl, by simp [hne], rfl⟩
              · have hve := HSB.out.1 rfl
                rcases emp_cases d.mo with ⟨c, e1⟩ | ⟨c, e1⟩
                · have HC := Lib.hid c
                  clear c hve
                  go_wp2_with fail
                  go_meet
                  exact ⟨_, rfl, by simp [HC.out], rfl⟩
                · have HC := Lib.hid c
                  have HVE := Lib.hid hve
                  clear c hve
                  generalize hmc : decide (m < cm) = mc at HA
                  have HMC := Lib.hid hmc
                  clear hmc
                  go_wp2_with (go_at_call 116; with_reducible refine HA.out.mono ?_; rintro _ w' ⟨rfl, rfl⟩)
                  go_meet
                  exact ⟨_, rfl, by rw [← HMC.out]; simp [HC.out, HVE.out], rfl⟩
            case rest =>
              obtain ⟨b, rfl, hb, rfl⟩ := hcut
              cases b
              · have HNS : Hid (¬ (v = cy ∧ d.mo.size ≠ 0 ∧ m < cm)) := Lib.hid (fun h => by have := hb.2 h; cases this)
                clear hb
                have hR := HS.out.f.range
                have hl := HL.out v m wO HS.out.f.below HIV.out.1 HIV.out.2 (fun h => HMM.out h m (by rw [← hme]; exact List.getElem_mem hlt))
                have HLN := Lib.hid hl
                clear hl
                obtain ⟨n, hn⟩ : ∃ n, n = d.len v m := ⟨_, rfl⟩
                rw [← hn] at HLN
                have HNN := Lib.hid hn
                clear hn
                go_upto_region 16 with (first
                  | (refine wpList_load_mid rfl 107 (.tmp 3) rfl w.heap.size 0 rfl (lstF d (.slice (some ⟨gm, 0, none⟩) d.ms.length xm) (.slice (some ⟨gd, 0, none⟩) d.ds.length xd)) _ hR Tryz.underlying107 rfl info_form ?_)
                  | (go_at_call 118; refine HLN.out.mono ?_; rintro _ w2 ⟨rfl, hb⟩))
                replace HS := Lib.hid (HS.out.later hb)
                clear hb hR HLN
                go_cut [16] (fun s wx => ∃ b, s = .bool b ∧ (b = true ↔ (v = cy ∧ (d.mo.size = 0 ∨ m = cm))) ∧ w2 = wx)
                case first =>
                  have g5 := HS.out.f.cell 5 _ rfl
                  have g1 := HS.out.c.cell 1 _ rfl
                  cases sb
                  · have hne : v ≠ cy := fun e => by have := HSB.out.2 e; cases this
                    go_wp2_with fail
                    go_meet
                    exact ⟨_, rfl, by simp [hne], rfl⟩
                  · have hve := HSB.out.1 rfl
                    have HVE := Lib.hid hve
                    clear hve
                    rcases emp_cases d.mo with ⟨c, e1⟩ | ⟨c, e1⟩
                    · have HC := Lib.hid c
                      clear c
                      go_wp2_with fail
                      go_meet
                      exact ⟨_, rfl, by simp [HC.out, HVE.out], rfl⟩
                    · have HC := Lib.hid c
                      clear c
                      go_wp2_with fail
                      go_meet
                      exact ⟨_, rfl, by simp [HC.out, HVE.out], rfl⟩
                case rest =>
                  obtain ⟨s2, rfl, hs2, rfl⟩ := hcut
                  have HS2 := Lib.hid hs2
                  have HGE := Lib.hid (fun k => seek_ge (k := k) (ck := ck) HMD.out HLE.out HNS.out hs2)
                  clear hs2 HSB
                  have HK0 := Lib.hid (Dt.noK_zero d v m cy cm ck)
                  go_wp2_with fail
                  go_loopw [7, 96] (fun r i wr => ∃ i' : Nat, r = .bool false ∧ i = .int .i64 i' ∧ i' ≤ d.ds.length ∧ d.NoK v m cy cm ck i' ∧ Sk d (.slice (some ⟨gm, 0, none⟩) d.ms.length xm) (.slice (some ⟨gd, 0, none⟩) d.ds.length xd) cy cm ck w.heap.size p4 p5 p6 w wr) (fun _ i _ => d.ds.length - (intOf i).toNat)
                  case atStart => exact ⟨0, rfl, rfl, by omega, HK0.out, HS.out⟩
                  case round =>
                    obtain ⟨j, rfl, rfl, hj, hK, hS⟩ := hrel
                    clear HS HK0
                    generalize wr = wO at *
                    have HS := Lib.hid hS
                    have HK := Lib.hid hK
                    clear hS hK
                    have dl := d.ds_len
                    by_cases hjt : j < d.ds.length
                    · have hcell := HS.out.d.at j hjt
                      generalize hke : d.ds[j]'hjt = k at hcell
                      go_upto_region 20 with (fail)
                      go_cut [119] (fun s wx => ∃ b, s = .bool b ∧ (b = true ↔ (k ≤ n ∧ ¬ (s2 = true ∧ d.da.size ≠ 0 ∧ k < ck))) ∧ wO = wx)
                      case first =>
                        have g6 := HS.out.f.cell 6 _ rfl
                        have g2 := HS.out.c.cell 2 _ rfl
                        have hu := HS.out.u.cell 0 _ rfl
                        have HA := Lib.hid (ahead_any k ck p5 wO hu)
                        by_cases hkn : k ≤ n
                        · cases s2
                          · go_wp2_with fail
                            go_meet
                            exact ⟨_, rfl, by simp [hkn], rfl⟩
                          · rcases emp_cases d.da with ⟨c, e1⟩ | ⟨c, e1⟩
                            · have HC := Lib.hid c
                              clear c
                              go_wp2_with fail
                              go_meet
                              exact ⟨_, rfl, by simp [HC.out, hkn], rfl⟩
                            · have HC := Lib.hid c
                              clear c
                              generalize hmc : decide (k < ck) = mc at HA
                              have HMC := Lib.hid hmc
                              clear hmc
                              go_wp2_with (go_at_call 116; with_reducible refine HA.out.mono ?_; rintro _ w' ⟨rfl, rfl⟩)
                              go_meet
                              exact ⟨_, rfl, by rw [← HMC.out]; simp [HC.out, hkn], rfl⟩
                        · go_wp2_with fail
                          go_meet
                          exact ⟨_, rfl, ⟨fun h => by simp [hkn] at h, fun h => absurd h.1 (by omega)⟩, rfl⟩
                      case rest =>
                        obtain ⟨b, rfl, hb, rfl⟩ := hcut
                        cases b
                        · have HK2 := Lib.hid (Dt.noK_succ HK.out hjt (fun hle hg => by
                            rw [hke] at hle hg
                            have := hb.2 ⟨by rw [HNN.out]; exact hle, (HGE.out k).1 hg⟩
                            cases this))
                          clear hb HK hcell
                          go_wp2_with fail
                          go_roundw
                          case rel => exact ⟨j + 1, rfl, by go_num, by omega, HK2.out, HS.out⟩
                          case measure => simp [intOf]; omega
                        · have hb := hb.1 rfl
                          have HF := Lib.hid (Dt.found (HV.out.yes rfl).1 (HV.out.yes rfl).2.2 HM.out hlt (by rw [hme]; exact HK.out) hjt (by rw [hme, hke, ← HNN.out]; exact hb.1) (by rw [hme, hke]; exact (HGE.out k).2 hb.2))
                          rw [hme, hke] at HF
                          clear hb HK hcell
                          have f0 := HS.out.o.cell 0 _ rfl
                          have f1 := HS.out.o.cell 1 _ rfl
                          have f2 := HS.out.o.cell 2 _ rfl
                          have z0 := HS.out.o.free 0 (by unfold lstC; simp)
                          have z1 := HS.out.o.free 1 (by unfold lstC; simp)
                          have z2 := HS.out.o.free 2 (by unfold lstC; simp)
                          go_wp2_with fail
                          exact seek_ret HS.out.o HF.out rfl rfl
                    · obtain rfl : j = d.ds.length := by omega
                      have HM2 := Lib.hid (Dt.noM_succ HM.out hlt (by rw [hme]; exact HK.out))
                      clear HK HM
                      go_wp2_with fail
                      go_roundw
                      case rel => exact ⟨i + 1, rfl, by go_num, by omega, HM2.out, HS.out⟩
                      case measure => simp [intOf]; omega
              · have hb := hb.1 rfl
                have HB := Lib.hid hb
                have HK := Lib.hid (Dt.noM_skip HM.out hlt HB.out.1 HB.out.2.1 (by rw [hme]; exact HB.out.2.2))
                clear hb HM
                go_wp2_with fail
                go_roundw
                case rel => exact ⟨i + 1, rfl, by go_num, by omega, HK.out, HS.out⟩
                case measure => simp [intOf]; omega
        · obtain rfl : i = d.ms.length := by omega
          have hR := HS.out.f.range
          have hu := HS.out.u.cell 0 _ rfl
          have hwk : IntKind.i64.wrap (v + 1) = v + 1 := by rw [IntKind.wrap_i64]; have := HIV.out; omega
          have hy := HY.out (v + 1) wO (by have := HIV.out; omega) (by have := HIV.out; omega)
          have HY1 := Lib.hid hy
          clear hy
          go_wp2_with fail
          rw [Exit.noGoto_normal]
          go_wp2_with (first
            | (refine wpList_load_mid rfl 107 (.tmp 3) rfl w.heap.size 0 rfl (lstF d (.slice (some ⟨gm, 0, none⟩) d.ms.length xm) (.slice (some ⟨gd, 0, none⟩) d.ds.length xd)) _ hR Tryz.underlying107 rfl info_form ?_)
            | (go_at_call 117; refine HY1.out.mono ?_; rintro _ w2 ⟨v2, ok2, hv2, rfl, hb⟩))
          have HX := Lib.hid (Yst.next HV.out HM.out hv2)
          have HS2 := Lib.hid (HS.out.later hb)
          clear hv2 hb hR hu
          go_roundw
          case rel => exact ⟨v2, ok2, rfl, rfl, rfl, HX.out.1, HS2.out⟩
          case measure =>
            have h1 := HIV.out
            have h2 := HX.out.2
            unfold muY
            cases ok2
            · simp [boolN, intOf]; omega
            · have := h2 rfl
              simp [boolN, intOf]; omega
end Bk
end Go.Proofs.YtipjmaimjchckaaGreatDoor

