/- THE WALKS of package masks, at masks of four bytes: Check, within, filled, value, split. -/
import Derived.Test.YtipjmaimjchckaaGreatDoorNB
import Derived.Test.YtipjmaimjchckaaGreatDoorNA
import Derived.Laws.IdiomStrings
import Derived.Laws.BytesArg
import Derived.Deep.DeepCutAuto
import Derived.Deep.CutBlock
import Derived.Deep.MidRow
import Derived.Deep.QuietTactic
import Derived.BigQuiet
import Derived.WalkMore
import Derived.Deep.LoopGhost
/-! THE WALKS of package masks, at masks of four bytes: Check, within, filled, value, split. -/
set_option linter.unusedSimpArgs false
set_option linter.unusedVariables false
set_option maxRecDepth 100000
namespace Go.Proofs.YtipjmaimjchckaaGreatDoor
open Go.RowKit Go.Lib
namespace Bk
open Un (ba bt ri rb ret2_ii ret2_bi)

theorem digX_asc {s : ByteArray} (h : allB isDigX s = true) (i : Nat) (hi : i < s.size) : byt s i = 88 ∨ (48 ≤ byt s i ∧ byt s i ≤ 57) := by
  have := (allB_iff _ _).1 h i hi
  unfold isDigX at this
  simp at this
  omega
theorem mok_of {s : ByteArray} (h4 : s.size = 4) (h : allB isDigX s = true) : MOk (byt s) := fun i hi => digX_asc h i (by omega)

set_option maxHeartbeats 1000000 in
theorem mCheck_any (s : ByteArray) (w : World) (h4 : s.size = 4) (hx : allB isDigX s = true) :
    Calls Tryz.prog 176 #[.string s] w fun r w' => r = .returned (.int .i64 0) ∧ Below w.heap.size w w' := by
  have HS := Lib.hid (fun (i : Nat) (hi : i < s.size) => digX_asc hx i hi)
  have H4 := Lib.hid h4
  have l1 : ¬ (18 : Int) < s.size := by omega
  have l2 : ¬ s.size = 0 := by omega
  have l3 : 0 < s.size := by omega
  have l4 := emp_no l2
  clear hx h4
  go_enter Tryz.func176, Tryz.ntmps176
  go_wp2
  go_loopg [] s.size (fun gf wx => ∃ pos : Nat, wx.heap[w.heap.size]? = some (.stringIter s pos) ∧ Below w.heap.size w wx ∧ s.size ≤ pos + gf)
  case atStart => exact ⟨0, World.iter_heap w s 0, (Below.refl _ w).alloc (Nat.le_refl _) _, by omega⟩
  case round =>
    obtain ⟨pos, hit, hbw, hfu⟩ := hrel
    by_cases hps : pos < s.size
    · obtain ⟨g', rfl⟩ : ∃ g', gk = g' + 1 := ⟨gk - 1, by omega⟩
      have hbd := HS.out pos hps
      rw [byt_get s pos hps] at hbd
      have hnx : ∀ ty, (Instr.next (.pointer (some ⟨w.heap.size, 0, none⟩)) true ty).run Tryz.prog wr = _ := fun ty => Lib.run_next_any_at wr w.heap.size s pos ty hit hps
      have hde := decode_ascii s pos hps (by omega)
      rw [hde] at hnx
      generalize (s[pos]'hps).toNat = R at hnx hbd hde
      have hit2 := Lib.iterAt_heap wr w.heap.size s pos (pos + 1) hit
      have hbw2 := Lib.below_iterAt hbw (k := w.heap.size) (Nat.le_refl _) s (pos + 1)
      clear hde
      rcases hbd with h | ⟨h1, h2⟩
      · have h : R = 88 := by omega
        subst h
        go_wp2
        go_roundg g'
        case measure => omega
        case rel => exact ⟨pos + 1, hit2, hbw2, by omega⟩
      · have e1 : ((R : Int) == 88) = false := by rw [beq_eq_false_iff_ne]; omega
        have e2 : ((R : Int) != 88) = true := by rw [bne_iff_ne]; omega
        have e3 : ¬ (R : Int) < 48 := by omega
        have e4 : ¬ (57 : Int) < R := by omega
        go_wp2
        go_roundg g'
        case measure => omega
        case rel => exact ⟨pos + 1, hit2, hbw2, by omega⟩
    · have hnx : ∀ ty, (Instr.next (.pointer (some ⟨w.heap.size, 0, none⟩)) true ty).run Tryz.prog wr = _ := fun ty => Lib.run_next_end_at wr w.heap.size s pos ty hit hps
      go_wp2
      go_ret
      exact ⟨rfl, hbw⟩

theorem power_any (n : Nat) (w : World) (h : n ≤ 18) : Calls Tryz.prog 191 #[.int .i64 n] w fun r w' => r = .returned (.int .i64 (p10 n)) ∧ w = w' := by
  have HT := Lib.hid (fun w => pow10_any n w h)
  generalize p10 n = p at *
  go_enter Tryz.func191, Tryz.ntmps191
  go_wp2_with (go_at_call 123; with_reducible refine (HT.out _).mono ?_; rintro _ w' ⟨rfl, rfl⟩)
  go_ret
  exact ⟨rfl, rfl⟩

theorem within_any (s : ByteArray) (n : Int) (w : World) (h4 : s.size = 4) :
    Calls Tryz.prog 178 #[.string s, .int .i64 n] w fun r w' => r = .returned (.bool (decide (0 ≤ n) && decide (n < 10000))) ∧ w = w' := by
  have HP : Hid (∀ w : World, Calls Tryz.prog 191 #[.int .i64 s.size] w fun r w' => r = .returned (.int .i64 10000) ∧ w = w') := Lib.hid (by
    intro w; have := power_any 4 w (by omega); rw [h4]; exact this)
  clear h4
  by_cases c : 0 ≤ n <;> by_cases c2 : n < 10000
  all_goals
    go_enter Tryz.func178, Tryz.ntmps178
    go_wp2_with (go_at_call 191; with_reducible refine (HP.out _).mono ?_; rintro _ w' ⟨rfl, rfl⟩)
    go_ret
    exact ⟨rb (by simp [c, c2]), rfl⟩

def pv (o : Nat → Int) : Nat → Int
  | 0 => 0
  | k + 1 => 10 * pv o k + (o k - 48)
theorem pv4 (o : Nat → Int) : pv o 4 = val4 o := by unfold val4; simp only [pv]; omega
theorem pv_bd {o : Nat → Int} (h : ∀ i, i < 4 → 48 ≤ o i ∧ o i ≤ 57) (k : Nat) (hk : k ≤ 4) : 0 ≤ pv o k ∧ pv o k ≤ 9999 := by
  have a0 := h 0 (by omega); have a1 := h 1 (by omega); have a2 := h 2 (by omega); have a3 := h 3 (by omega)
  obtain rfl | rfl | rfl | rfl | rfl : k = 0 ∨ k = 1 ∨ k = 2 ∨ k = 3 ∨ k = 4 := by omega
  all_goals simp only [pv]; omega

theorem bytes_cells (w : World) (s : ByteArray) (cap : Nat) (T : TypeId) (m : Nat × Nat) (i : Nat) (h : i < s.size) : (w.drew.alloc (.cells (bytesRow s cap) T m)).cell? ⟨w.heap.size, i, none⟩ = some (.int .u8 ((s[i]'h).toNat : Int)) := by
  have := World.cell?_alloc_mark w.drew (bytesRow s cap) T m i
  rw [show w.drew.heap.size = w.heap.size from rfl] at this
  rw [this, bytesRow_at s cap i h]
  rfl

/-- '[]byte(s)'. -/
theorem conv_bytes (w : World) (s : ByteArray) : ∃ (cap : Nat) (W1 : World), (convert 9 113 (.string s)).run Tryz.prog w = .ok (.slice (some ⟨w.heap.size, 0, none⟩) s.size cap) W1 ∧ (∀ i (h : i < s.size), W1.cell? ⟨w.heap.size, i, none⟩ = some (.int .u8 ((s[i]'h).toNat : Int))) ∧ Below w.heap.size w W1 :=
  ⟨_, _, run_bytes_of_string (P := Tryz.prog) w 9 113 5 s Tryz.underlying9 Tryz.underlying113 Tryz.underlying5, fun i h => bytes_cells w s _ _ _ i h, ba (Below.refl _ _).drew _⟩

set_option maxHeartbeats 1000000 in
theorem filled_any (s : ByteArray) (x : Int) (o : Nat → Int) (w : World) (h4 : s.size = 4) (ho : ∀ i, i < 4 → o i = if byt s i = 88 then x else byt s i) (hd : ∀ i, i < 4 → 48 ≤ o i ∧ o i ≤ 57) :
    Calls Tryz.prog 190 #[.string s, .int .u8 x] w fun r w' => r = .returned (.int .i64 (val4 o)) ∧ Below w.heap.size w w' := by
  obtain ⟨cap, W1, hcv, hC, hB⟩ := conv_bytes w s
  have HC := Lib.hid hC
  clear hC
  have HO := Lib.hid ho
  have HD := Lib.hid hd
  have HP := Lib.hid (fun k hk => pv_bd hd k hk)
  clear ho hd
  have H4 := Lib.hid h4
  have l4 : (s.size : Int) = 4 := by omega
  replace l4 := Lib.hid l4
  clear h4
  go_enter Tryz.func190, Tryz.ntmps190
  go_wp2
  clear hcv
  go_loop [5, 11] (fun n i => ∃ k : Nat, k ≤ s.size ∧ i = .int .i64 k ∧ n = .int .i64 (pv o k)) (fun _ i => s.size - (intOf i).toNat)
  case atStart => exact ⟨0, Nat.zero_le _, rfl, rfl⟩
  case round =>
    obtain ⟨k, hk, rfl, rfl⟩ := hrel
    have p0 := HP.out k (by have := H4.out; omega)
    by_cases hlt : k < s.size
    · have k4 : k < 4 := by have := H4.out; omega
      have hc := HC.out k hlt
      have ho := HO.out k k4
      have hd := HD.out k k4
      rw [byt_get s k hlt] at ho
      have p1 := HP.out (k + 1) (by omega)
      have hs : pv o (k + 1) = 10 * pv o k + (o k - 48) := rfl
      by_cases c : ((s[k]'hlt).toNat : Int) = 88
      · rw [if_pos c] at ho
        have HS := Lib.hid hs
        have HO2 := Lib.hid ho
        rw [hs, ho] at p1
        rw [ho] at hd
        have cb : (((s[k]'hlt).toNat : Int) == 88) = true := by rw [c]; rfl
        clear hs ho c
        obtain ⟨d0, d1⟩ := hd
        go_wp2
        go_round
        case rel => exact ⟨k + 1, by omega, by go_num, by rw [HS.out, HO2.out]⟩
        case measure => simp [intOf]; omega
      · rw [if_neg c] at ho
        have HS := Lib.hid hs
        have HO2 := Lib.hid ho
        rw [hs, ho] at p1
        rw [ho] at hd
        have cb : (((s[k]'hlt).toNat : Int) == 88) = false := by rw [beq_eq_false_iff_ne]; exact c
        clear hs ho c
        obtain ⟨d0, d1⟩ := hd
        go_wp2
        go_round
        case rel => exact ⟨k + 1, by omega, by go_num, by rw [HS.out, HO2.out]⟩
        case measure => simp [intOf]; omega
    · have e : k = 4 := by have := H4.out; omega
      subst e
      go_wp2
      go_ret
      exact ⟨ri (pv4 o), hB⟩

/-- An array of digits. -/
def arr18 (o : Nat → Int) : Value := .agg #[.int .u8 (o 0), .int .u8 (o 1), .int .u8 (o 2), .int .u8 (o 3), .int .u8 (o 4), .int .u8 (o 5), .int .u8 (o 6), .int .u8 (o 7), .int .u8 (o 8), .int .u8 (o 9), .int .u8 (o 10), .int .u8 (o 11), .int .u8 (o 12), .int .u8 (o 13), .int .u8 (o 14), .int .u8 (o 15), .int .u8 (o 16), .int .u8 (o 17)]
def cells18 (o : Nat → Int) : Array Value := #[.int .u8 (o 0), .int .u8 (o 1), .int .u8 (o 2), .int .u8 (o 3), .int .u8 (o 4), .int .u8 (o 5), .int .u8 (o 6), .int .u8 (o 7), .int .u8 (o 8), .int .u8 (o 9), .int .u8 (o 10), .int .u8 (o 11), .int .u8 (o 12), .int .u8 (o 13), .int .u8 (o 14), .int .u8 (o 15), .int .u8 (o 16), .int .u8 (o 17)]
/-- The digits of a number below 10000, the first one ahead. -/
def Dn (n : Int) (i : Nat) : Int := if i < 4 then 48 + dg n i else 0

/-- A block holds an array of bytes. -/
structure Ar (p : Nat) (o : Nat → Int) (w W : World) : Prop where
  cell : ∀ i, i < 18 → W.cell? ⟨p, i, none⟩ = some (.int .u8 (o i))
  free : ∀ i, i < 18 → W.frozen? ⟨p, i, none⟩ = false
  new : w.heap.size ≤ p
  below : Below w.heap.size w W
theorem Ar.later {p : Nat} {o : Nat → Int} {w W W2 : World} (h : Ar p o w W) (hb : Below W.heap.size W W2) : Ar p o w W2 :=
  have hl := World.block_lt_of_cell? _ _ (h.cell 0 (by omega))
  ⟨fun i hi => (hb.cell (p := ⟨p, i, none⟩) hl).trans (h.cell i hi), fun i hi => (hb.frozen (p := ⟨p, i, none⟩) hl).trans (h.free i hi), h.new, bt h.below hb⟩
theorem Ar.set {p : Nat} {o : Nat → Int} {w W : World} (h : Ar p o w W) (k : Nat) (hk : k < 18) (v : Int) : Ar p (fun i => if i = k then v else o i) w (W.setCell ⟨p, k, none⟩ (.int .u8 v)) := by
  refine ⟨fun i hi => ?_, fun i hi => by rw [World.frozen?_setCell]; exact h.free i hi, h.new, h.below.setCell h.new _⟩
  by_cases c : i = k
  · subst c
    rw [if_pos rfl]
    exact World.cell?_setCell_same _ _ _ (h.cell i hi)
  · rw [if_neg c, World.cell?_setCell_other _ _ _ _ (by intro e; injection e with e1 e2; exact c e2.symm)]
    exact h.cell i hi
theorem Ar.other {p q : Nat} {o : Nat → Int} {w W : World} (h : Ar p o w W) (hne : q ≠ p) (hq : w.heap.size ≤ q) (k : Nat) (v : Value) : Ar p o w (W.setCell ⟨q, k, none⟩ v) := by
  refine ⟨fun i hi => ?_, fun i hi => by rw [World.frozen?_setCell]; exact h.free i hi, h.new, h.below.setCell hq _⟩
  rw [World.cell?_setCell_other _ _ _ _ (by intro e; injection e with e1 e2; exact hne e1)]
  exact h.cell i hi
theorem Ar.fresh (o : Nat → Int) (w : World) (t : TypeId) : Ar w.heap.size o w (w.alloc (.cells (cells18 o) t)) := by
  refine ⟨fun i hi => ?_, fun i hi => by simp, Nat.le_refl _, ba (Below.refl _ _) _⟩
  unfold cells18
  obtain rfl | rfl | rfl | rfl | rfl | rfl | rfl | rfl | rfl | rfl | rfl | rfl | rfl | rfl | rfl | rfl | rfl | rfl : i = 0 ∨ i = 1 ∨ i = 2 ∨ i = 3 ∨ i = 4 ∨ i = 5 ∨ i = 6 ∨ i = 7 ∨ i = 8 ∨ i = 9 ∨ i = 10 ∨ i = 11 ∨ i = 12 ∨ i = 13 ∨ i = 14 ∨ i = 15 ∨ i = 16 ∨ i = 17 := by omega
  all_goals simp [go_sem]
/-- The cells, one by one. -/
theorem Ar.all {p : Nat} {o : Nat → Int} {w W : World} (h : Ar p o w W) : W.cell? ⟨p, 0, none⟩ = some (.int .u8 (o 0)) ∧ W.cell? ⟨p, 1, none⟩ = some (.int .u8 (o 1)) ∧ W.cell? ⟨p, 2, none⟩ = some (.int .u8 (o 2)) ∧ W.cell? ⟨p, 3, none⟩ = some (.int .u8 (o 3)) ∧ W.cell? ⟨p, 4, none⟩ = some (.int .u8 (o 4)) ∧ W.cell? ⟨p, 5, none⟩ = some (.int .u8 (o 5)) ∧ W.cell? ⟨p, 6, none⟩ = some (.int .u8 (o 6)) ∧ W.cell? ⟨p, 7, none⟩ = some (.int .u8 (o 7)) ∧ W.cell? ⟨p, 8, none⟩ = some (.int .u8 (o 8)) ∧ W.cell? ⟨p, 9, none⟩ = some (.int .u8 (o 9)) ∧ W.cell? ⟨p, 10, none⟩ = some (.int .u8 (o 10)) ∧ W.cell? ⟨p, 11, none⟩ = some (.int .u8 (o 11)) ∧ W.cell? ⟨p, 12, none⟩ = some (.int .u8 (o 12)) ∧ W.cell? ⟨p, 13, none⟩ = some (.int .u8 (o 13)) ∧ W.cell? ⟨p, 14, none⟩ = some (.int .u8 (o 14)) ∧ W.cell? ⟨p, 15, none⟩ = some (.int .u8 (o 15)) ∧ W.cell? ⟨p, 16, none⟩ = some (.int .u8 (o 16)) ∧ W.cell? ⟨p, 17, none⟩ = some (.int .u8 (o 17)) :=
  ⟨h.cell _ (by omega), h.cell _ (by omega), h.cell _ (by omega), h.cell _ (by omega), h.cell _ (by omega), h.cell _ (by omega), h.cell _ (by omega), h.cell _ (by omega), h.cell _ (by omega), h.cell _ (by omega), h.cell _ (by omega), h.cell _ (by omega), h.cell _ (by omega), h.cell _ (by omega), h.cell _ (by omega), h.cell _ (by omega), h.cell _ (by omega), h.cell _ (by omega)⟩
theorem Ar.allF {p : Nat} {o : Nat → Int} {w W : World} (h : Ar p o w W) : W.frozen? ⟨p, 0, none⟩ = false ∧ W.frozen? ⟨p, 1, none⟩ = false ∧ W.frozen? ⟨p, 2, none⟩ = false ∧ W.frozen? ⟨p, 3, none⟩ = false ∧ W.frozen? ⟨p, 4, none⟩ = false ∧ W.frozen? ⟨p, 5, none⟩ = false ∧ W.frozen? ⟨p, 6, none⟩ = false ∧ W.frozen? ⟨p, 7, none⟩ = false ∧ W.frozen? ⟨p, 8, none⟩ = false ∧ W.frozen? ⟨p, 9, none⟩ = false ∧ W.frozen? ⟨p, 10, none⟩ = false ∧ W.frozen? ⟨p, 11, none⟩ = false ∧ W.frozen? ⟨p, 12, none⟩ = false ∧ W.frozen? ⟨p, 13, none⟩ = false ∧ W.frozen? ⟨p, 14, none⟩ = false ∧ W.frozen? ⟨p, 15, none⟩ = false ∧ W.frozen? ⟨p, 16, none⟩ = false ∧ W.frozen? ⟨p, 17, none⟩ = false :=
  ⟨h.free _ (by omega), h.free _ (by omega), h.free _ (by omega), h.free _ (by omega), h.free _ (by omega), h.free _ (by omega), h.free _ (by omega), h.free _ (by omega), h.free _ (by omega), h.free _ (by omega), h.free _ (by omega), h.free _ (by omega), h.free _ (by omega), h.free _ (by omega), h.free _ (by omega), h.free _ (by omega), h.free _ (by omega), h.free _ (by omega)⟩
end Bk
end Go.Proofs.YtipjmaimjchckaaGreatDoor

/-! THE WALKS of package masks: value, split. -/
set_option linter.unusedSimpArgs false
set_option linter.unusedVariables false
set_option maxRecDepth 100000
namespace Go.Proofs.YtipjmaimjchckaaGreatDoor
open Go.RowKit Go.Lib
namespace Bk
open Un (ba bt ri rb ret2_ii ret2_bi)

theorem byte_of {x : Int} (h0 : 0 ≤ x) (h1 : x < 256) : ((UInt8.ofNat x.toNat).toNat : Int) = x := by
  rw [UInt8.toNat_ofNat']; omega
set_option maxHeartbeats 1000000 in
theorem value_any (s : ByteArray) (o : Nat → Int) (w : World) (h4 : s.size = 4) (hd : ∀ i, i < 4 → 48 ≤ o i ∧ o i ≤ 57) :
    Calls Tryz.prog 193 #[.string s, arr18 o] w fun r w' => r = .returned (.int .i64 (val4 o)) ∧ Below w.heap.size w w' := by
  have hA := Ar.fresh o w 215
  obtain ⟨S, hS⟩ : ∃ S, S = strOfNums [o 0, o 1, o 2, o 3] := ⟨_, rfl⟩
  have h5 : S.size = 4 := by rw [hS, strOfNums_size]; rfl
  have hb : ∀ i, i < 4 → byt S i = o i := by
    intro i hi
    have := hd i hi
    unfold byt
    rw [hS, strOfNums_data]
    obtain rfl | rfl | rfl | rfl : i = 0 ∨ i = 1 ∨ i = 2 ∨ i = 3 := by omega
    all_goals exact byte_of (by omega) (by omega)
  have HF := Lib.hid (fun w => filled_any S 0 o w h5 (fun i hi => by rw [hb i hi, if_neg (by have := hd i hi; omega)]) hd)
  have HS := Lib.hid hS
  clear hb h5 hS
  unfold arr18
  go_enter Tryz.func193, Tryz.ntmps193
  go_upto_region 1 with (fail)
  unfold cells18 at hA
  generalize w.alloc (.cells #[.int .u8 (o 0), .int .u8 (o 1), .int .u8 (o 2), .int .u8 (o 3), .int .u8 (o 4), .int .u8 (o 5), .int .u8 (o 6), .int .u8 (o 7), .int .u8 (o 8), .int .u8 (o 9), .int .u8 (o 10), .int .u8 (o 11), .int .u8 (o 12), .int .u8 (o 13), .int .u8 (o 14), .int .u8 (o 15), .int .u8 (o 16), .int .u8 (o 17)] 215) = W0 at hA ⊢
  have hcv := run_convert_bytes_arg (P := Tryz.prog) W0 113 5 Tryz.underlying113 Tryz.underlying5 w.heap.size 0 4 18 [o 0, o 1, o 2, o 3] rfl (by
    intro i hi
    rw [Nat.zero_add, hA.cell i (by omega)]
    obtain rfl | rfl | rfl | rfl : i = 0 ∨ i = 1 ∨ i = 2 ∨ i = 3 := by omega
    all_goals rfl) 9 Tryz.underlying9
  rw [← HS.out] at hcv
  have hBl := hA.below
  clear hA hd
  go_wp2_with (go_at_call 190; with_reducible refine (HF.out _).mono ?_; rintro _ w' ⟨rfl, hb⟩)
  go_ret
  exact ⟨rfl, bt hBl hb⟩

theorem Ar.congr {p : Nat} {o o' : Nat → Int} {w W : World} (h : Ar p o w W) (e : ∀ i, i < 18 → o i = o' i) : Ar p o' w W :=
  ⟨fun i hi => by rw [← e i hi]; exact h.cell i hi, h.free, h.new, h.below⟩

theorem setCell_self {w : World} {a : Addr} {v : Value} (h : w.cell? a = some v) : w.setCell a v = w := by
  have e : (w.setCell a v).heap = w.heap := by
    unfold World.setCell
    apply Array.ext
    · simp
    · intro i h1 h2
      simp only [Array.getElem_modify]
      split
      · rename_i hi
        subst hi
        unfold World.cell? at h
        rw [Array.getElem?_eq_getElem h2] at h
        cases hb : w.heap[a.block] with
        | cells c e f =>
          rw [hb] at h
          simp only at h
          show Obj.cells (if a.spot.isSome = true then c else c.setIfInBounds a.off v) e f = Obj.cells c e f
          by_cases hs : a.spot.isSome = true
          · rw [if_pos hs]
          · rw [if_neg hs] at h ⊢
            congr 1
            apply Array.ext
            · simp
            · intro j g1 g2
              rw [Array.getElem_setIfInBounds]
              split
              · rename_i hj
                subst hj
                rw [Array.getElem?_eq_getElem g2] at h
                injection h with h
                exact h.symm
              · rfl
        | _ => rfl
      · rfl
  show ({ w with heap := (w.setCell a v).heap } : World) = w
  rw [e]
theorem Ar.same {p : Nat} {o : Nat → Int} {w W : World} (h : Ar p o w W) : W.setCell ⟨p, 0, none⟩ (.int .u8 (o 0)) = W ∧ W.setCell ⟨p, 1, none⟩ (.int .u8 (o 1)) = W ∧ W.setCell ⟨p, 2, none⟩ (.int .u8 (o 2)) = W ∧ W.setCell ⟨p, 3, none⟩ (.int .u8 (o 3)) = W ∧ W.setCell ⟨p, 4, none⟩ (.int .u8 (o 4)) = W ∧ W.setCell ⟨p, 5, none⟩ (.int .u8 (o 5)) = W ∧ W.setCell ⟨p, 6, none⟩ (.int .u8 (o 6)) = W ∧ W.setCell ⟨p, 7, none⟩ (.int .u8 (o 7)) = W ∧ W.setCell ⟨p, 8, none⟩ (.int .u8 (o 8)) = W ∧ W.setCell ⟨p, 9, none⟩ (.int .u8 (o 9)) = W ∧ W.setCell ⟨p, 10, none⟩ (.int .u8 (o 10)) = W ∧ W.setCell ⟨p, 11, none⟩ (.int .u8 (o 11)) = W ∧ W.setCell ⟨p, 12, none⟩ (.int .u8 (o 12)) = W ∧ W.setCell ⟨p, 13, none⟩ (.int .u8 (o 13)) = W ∧ W.setCell ⟨p, 14, none⟩ (.int .u8 (o 14)) = W ∧ W.setCell ⟨p, 15, none⟩ (.int .u8 (o 15)) = W ∧ W.setCell ⟨p, 16, none⟩ (.int .u8 (o 16)) = W ∧ W.setCell ⟨p, 17, none⟩ (.int .u8 (o 17)) = W :=
  ⟨setCell_self (h.cell _ (by omega)), setCell_self (h.cell _ (by omega)), setCell_self (h.cell _ (by omega)), setCell_self (h.cell _ (by omega)), setCell_self (h.cell _ (by omega)), setCell_self (h.cell _ (by omega)), setCell_self (h.cell _ (by omega)), setCell_self (h.cell _ (by omega)), setCell_self (h.cell _ (by omega)), setCell_self (h.cell _ (by omega)), setCell_self (h.cell _ (by omega)), setCell_self (h.cell _ (by omega)), setCell_self (h.cell _ (by omega)), setCell_self (h.cell _ (by omega)), setCell_self (h.cell _ (by omega)), setCell_self (h.cell _ (by omega)), setCell_self (h.cell _ (by omega)), setCell_self (h.cell _ (by omega))⟩

theorem results_lone {fn : Func} {p : Tmp} {ty : TypeId} (h : fn.results = #[.cell p ty]) (tmps : Array Value) {P : Program} {w : World} {a : Addr} {v : Value}
    (hp : tmps.getD p undef = .pointer (some a)) (hl : (loadVar ty a).run P w = .ok v w) : (results fn tmps).run P w = .ok v w := by
  have hp' : tmps[p]?.getD undef = .pointer (some a) := by simpa using hp
  simp [results, h, hp', asAddr, hl]
/-- The cells as a list. -/
def lst18 (o : Nat → Int) : List Value := (List.range 18).map fun i => .int .u8 (o i)
theorem lst18_eq (o : Nat → Int) : (Value.agg (lst18 o).toArray) = arr18 o := rfl
theorem info_digits : (Tryz.prog.info? 215).map (·.size) = some 18 := by kernel_rfl
theorem lst18_get (o : Nat → Int) (j : Nat) (v : Value) (h : (lst18 o)[j]? = some v) : j < 18 ∧ v = .int .u8 (o j) := by
  unfold lst18 at h
  rw [List.getElem?_map, Option.map_eq_some_iff] at h
  obtain ⟨a, ha, rfl⟩ := h
  obtain ⟨hj, rfl⟩ := List.getElem?_eq_some_iff.1 ha
  simp at hj ⊢
  exact hj
theorem Ar.range {p : Nat} {o : Nat → Int} {w W : World} (h : Ar p o w W) : W.rangeAt p 0 (lst18 o) := by
  intro j v hv
  obtain ⟨hj, rfl⟩ := lst18_get o j v hv
  rw [Nat.zero_add]
  exact h.cell j hj
theorem Ar.loadV {p : Nat} {o : Nat → Int} {w W : World} (h : Ar p o w W) : (loadVar 215 ⟨p, 0, none⟩).run Tryz.prog W = .ok (arr18 o) W :=
  run_loadVar_mid W p 0 _ (lst18 o) _ h.range Tryz.underlying215 rfl info_digits
theorem setCells_self {p : Nat} {W : World} : ∀ (vs : List Value) (k : Nat), W.rangeAt p k vs → W.setCells p k vs = W
  | [], _, _ => rfl
  | v :: r, k, h => by
    unfold World.setCells
    rw [setCell_self (show W.cell? ⟨p, k, none⟩ = some v from h 0 v rfl)]
    exact setCells_self r (k + 1) (fun j u hj => by rw [show k + 1 + j = k + (j + 1) by omega]; exact h (j + 1) u hj)
theorem Ar.there {p : Nat} {o : Nat → Int} {w W : World} (h : Ar p o w W) : W.there p 0 (lst18 o).toArray.size := fun j hj => by
  have hj : j < 18 := hj
  rw [Nat.zero_add, h.cell j hj]; exact ⟨rfl, h.free j hj⟩
theorem one18 (o : Nat → Int) : (lst18 o).toArray.all (·.oneCell') = true := all_oneCell_toArray (fun v hv => by
  unfold lst18 at hv
  rw [List.mem_map] at hv
  obtain ⟨i, _, rfl⟩ := hv
  rfl)
theorem Ar.self {p : Nat} {o : Nat → Int} {w W : World} (h : Ar p o w W) : W.setCells p 0 (lst18 o).toArray.toList = W := setCells_self (lst18 o) 0 h.range

/-- What is left of a number behind its last j digits. -/
def nd (n : Int) (j : Nat) : Int := if j = 0 then n else if j = 1 then n / 10 else if j = 2 then n / 100 else if j = 3 then n / 1000 else n / 10000
/-- The last j of four digits. -/
def Sp (n : Int) (j i : Nat) : Int := if 4 ≤ i + j ∧ i < 4 then 48 + dg n i else 0
theorem Sp_four (n : Int) (i : Nat) : Sp n 4 i = Dn n i := by
  unfold Sp Dn
  by_cases h : i < 4
  · rw [if_pos ⟨by omega, h⟩, if_pos h]
  · rw [if_neg (by omega), if_neg h]
theorem nd_facts (n : Int) (h0 : 0 ≤ n) (h1 : n ≤ 9999) (j : Nat) (hj : j < 4) : 0 ≤ nd n j ∧ nd n j ≤ 9999 ∧ nd n (j + 1) = nd n j / 10 ∧ dg n (3 - j) = nd n j % 10 := by
  unfold nd dg
  obtain rfl | rfl | rfl | rfl : j = 0 ∨ j = 1 ∨ j = 2 ∨ j = 3 := by omega
  all_goals simp
  all_goals omega
theorem Ar.zero (w : World) (t : TypeId) : Ar w.heap.size (fun _ => 0) w (w.alloc (.cells #[.int .u8 0, .int .u8 0, .int .u8 0, .int .u8 0, .int .u8 0, .int .u8 0, .int .u8 0, .int .u8 0, .int .u8 0, .int .u8 0, .int .u8 0, .int .u8 0, .int .u8 0, .int .u8 0, .int .u8 0, .int .u8 0, .int .u8 0, .int .u8 0] t)) := Ar.fresh (fun _ => 0) w t

set_option maxHeartbeats 4000000 in
theorem split_any (s : ByteArray) (n : Int) (w : World) (h4 : s.size = 4) (h0 : 0 ≤ n) (h1 : n ≤ 9999) :
    Calls Tryz.prog 192 #[.string s, .int .i64 n] w fun r w' => r = .returned (arr18 (Dn n)) ∧ Below w.heap.size w w' := by
  have hA := Ar.zero w 215
  have HN := Lib.hid (fun j hj => nd_facts n h0 h1 j hj)
  have hSn : ∀ j, j < 4 → ∀ i, i < 18 → (if i = 3 - j then 48 + dg n (3 - j) else Sp n j i) = Sp n (j + 1) i := by
    intro j hj i hi
    unfold Sp
    by_cases c : i = 3 - j
    · subst c
      rw [if_pos rfl, if_pos (by omega)]
    · rw [if_neg c]
      by_cases d : 4 ≤ i + j ∧ i < 4
      · rw [if_pos d, if_pos (by omega)]
      · rw [if_neg d, if_neg (by omega)]
  have HS := Lib.hid hSn
  clear hSn
  obtain ⟨o, ho⟩ : ∃ o, o = Dn n := ⟨_, rfl⟩
  rw [← ho]
  have HO := Lib.hid (fun i => (by rw [ho]; exact Sp_four n i : Sp n 4 i = o i))
  clear ho
  go_enter Tryz.func192, Tryz.ntmps192
  go_upto_block 0 with (fail)
  generalize w.alloc (.cells #[.int .u8 0, .int .u8 0, .int .u8 0, .int .u8 0, .int .u8 0, .int .u8 0, .int .u8 0, .int .u8 0, .int .u8 0, .int .u8 0, .int .u8 0, .int .u8 0, .int .u8 0, .int .u8 0, .int .u8 0, .int .u8 0, .int .u8 0, .int .u8 0] 215) = W0 at hA ⊢
  replace hA := Lib.hid (hA.congr (o' := Sp n 0) (fun i hi => by unfold Sp; rw [if_neg (by omega)]))
  clear h4
  go_wp2
  go_loopw [1, 5] (fun t i wx => ∃ k : Nat, k ≤ 4 ∧ i = .int .i64 ((k : Int) - 1) ∧ t = .int .i64 (nd n (4 - k)) ∧ Ar w.heap.size (Sp n (4 - k)) w wx) (fun _ i _ => ((intOf i) + 1).toNat)
  case atStart => exact ⟨4, Nat.le_refl _, rfl, rfl, hA.out⟩
  case round =>
    obtain ⟨k, hk, hi, rfl, hA⟩ := hrel
    by_cases hlt : 0 < k
    · obtain ⟨m, rfl⟩ : ∃ m, k = m + 1 := ⟨k - 1, by omega⟩
      rw [show (((m + 1 : Nat) : Int)) - 1 = (m : Int) by omega] at hi
      subst hi
      have hj : 4 - (m + 1) < 4 := by omega
      obtain ⟨d0, d1, d2, d3⟩ := HN.out _ hj
      have hs := HS.out _ hj
      rw [show 4 - (m + 1) + 1 = 4 - m by omega] at d2 hs
      rw [show 3 - (4 - (m + 1)) = m by omega] at d3 hs
      have hc := hA.cell m (by omega)
      have hf := hA.free m (by omega)
      have hm : m < 18 := by omega
      have hm4 : (m : Int) < 4 := by omega
      generalize nd n (4 - (m + 1)) = q at *
      have hX := Lib.hid ((hA.set m hm (48 + q % 10)).congr (o' := Sp n (4 - m)) (fun i hi => by rw [← d3]; exact hs i hi))
      have D2 := Lib.hid d2
      have e0 : 0 ≤ q % 10 := by omega
      have e1 : q % 10 ≤ 9 := by omega
      clear hA hs d2 d3
      go_wp2
      go_roundw
      case rel => exact ⟨m, by omega, rfl, by rw [D2.out], hX.out⟩
      case measure => simp [intOf]
    · as_aux_lemma =>
        obtain rfl : k = 0 := by omega
        subst hi
        have hA2 := hA.congr (o' := o) (fun i _ => HO.out i)
        clear hA
        have hR := hA2.range
        have hT := hA2.there
        have hS := Lib.hid hA2.self
        have hlv := Lib.hid hA2.loadV
        have HB := Lib.hid hA2.below
        clear hA2
        go_wp2_with (first
          | (refine wpList_load_mid rfl 215 (.tmp 4) rfl w.heap.size 0 rfl (lst18 o) _ hR Tryz.underlying215 rfl info_digits ?_)
          | (refine wpList_store_mid rfl 215 (.tmp 4) (.tmp 21) rfl w.heap.size 0 (lst18 o).toArray rfl rfl hT info_digits (one18 o) ?_; rw [hS.out]))
        exact bodyPost_ret (v := arr18 o) (results_lone Tryz.results192 _ rfl hlv.out) rfl ⟨rfl, HB.out⟩
end Bk
end Go.Proofs.YtipjmaimjchckaaGreatDoor

/-! THE WALK of masks.beyond, upwards and downwards. -/
set_option linter.unusedSimpArgs false
set_option linter.unusedVariables false
set_option maxRecDepth 100000
namespace Go.Proofs.YtipjmaimjchckaaGreatDoor
open Go.RowKit Go.Lib
namespace Bk
open Un (ba bt ri rb ret2_ii ret2_bi)

theorem Ar.fresh0 {w W : World} (hb : Below w.heap.size w W) (t : TypeId) : Ar W.heap.size (fun _ => 0) w (W.alloc (.cells #[.int .u8 0, .int .u8 0, .int .u8 0, .int .u8 0, .int .u8 0, .int .u8 0, .int .u8 0, .int .u8 0, .int .u8 0, .int .u8 0, .int .u8 0, .int .u8 0, .int .u8 0, .int .u8 0, .int .u8 0, .int .u8 0, .int .u8 0, .int .u8 0] t)) := by
  have h := Ar.zero W t
  exact ⟨h.cell, h.free, hb.size, ba hb _⟩
theorem Ar.setAll {p : Nat} {o : Nat → Int} {w W : World} (h : Ar p o w W) (o' : Nat → Int) : Ar p o' w (W.setCells p 0 (lst18 o').toArray.toList) := by
  have key : ∀ (vs : List Value) (k : Nat) (W : World), (∀ i, k ≤ i → i < k + vs.length → (W.cell? ⟨p, i, none⟩).isSome = true) → (∀ j v, vs[j]? = some v → (W.setCells p k vs).cell? ⟨p, k + j, none⟩ = some v) := by
    intro vs
    induction vs with
    | nil => intro k W _ j v hv; simp at hv
    | cons u r ih =>
      intro k W hs j v hv
      unfold World.setCells
      cases j with
      | zero =>
        simp at hv; subst hv
        rw [World.cell?_setCells_out p r (k + 1) _ ⟨p, k + 0, none⟩ (fun _ _ => .inl (by show k + 0 < k + 1; omega))]
        obtain ⟨x, hx⟩ := Option.isSome_iff_exists.1 (hs k (Nat.le_refl _) (by simp))
        exact World.cell?_setCell_same _ _ _ hx
      | succ j =>
        rw [show k + (j + 1) = k + 1 + j by omega]
        refine ih (k + 1) _ (fun i h1 h2 => ?_) j v (by simpa using hv)
        rw [World.cell?_setCell_other _ _ _ _ (by intro e; injection e with _ e2; omega)]
        exact hs i (by omega) (by simp; omega)
  have fz : ∀ (vs : List Value) (k : Nat) (W : World) (i : Nat), (W.setCells p k vs).frozen? ⟨p, i, none⟩ = W.frozen? ⟨p, i, none⟩ := by
    intro vs
    induction vs with
    | nil => intro k W i; rfl
    | cons u r ih => intro k W i; unfold World.setCells; rw [ih, World.frozen?_setCell]
  have bl : ∀ (vs : List Value) (k : Nat) (W : World), Below w.heap.size w W → Below w.heap.size w (W.setCells p k vs) := by
    intro vs
    induction vs with
    | nil => intro k W hb; exact hb
    | cons u r ih => intro k W hb; unfold World.setCells; exact ih _ _ (hb.setCell h.new _)
  have hl : (lst18 o').toArray.toList = lst18 o' := rfl
  rw [hl]
  refine ⟨fun i hi => ?_, fun i hi => by rw [fz]; exact h.free i hi, h.new, bl _ _ _ h.below⟩
  have := key (lst18 o') 0 W (fun j _ hj => by
    have hj : j < 18 := by have : (lst18 o').length = 18 := rfl; omega
    rw [h.cell j hj]; rfl) i (.int .u8 (o' i)) (by
      unfold lst18
      rw [List.getElem?_map, List.getElem?_range hi]; rfl)
  rw [Nat.zero_add] at this
  exact this
theorem Ar.others {p q : Nat} {o : Nat → Int} {w W : World} (h : Ar p o w W) (hne : q ≠ p) (hq : w.heap.size ≤ q) : ∀ (vs : List Value) (k : Nat), Ar p o w (W.setCells q k vs) := by
  intro vs
  induction vs generalizing W with
  | nil => intro k; exact h
  | cons u r ih => intro k; unfold World.setCells; exact ih (h.other hne hq k u) (k + 1)

theorem Ar.alloc {p : Nat} {o : Nat → Int} {w W : World} (h : Ar p o w W) (ob : Obj) : Ar p o w (W.alloc ob) := h.later (ba (Below.refl _ _) _)

def RetII (P : Int → Int → Prop) (w : World) (e : Ending) (w' : World) : Prop := ∃ v x, P v x ∧ e = .returned (.tuple #[.int .i64 v, .int .i64 x]) ∧ Below w.heap.size w w'

/-- What is left to do is to fill the places from j on. -/
def GoodU (b : Nat → Int) (n : Int) (j : Nat) (o : Nat → Int) : Prop := ∀ o' : Nat → Int, (∀ i, i < j → o' i = o i) → (∀ i, j ≤ i → i < 4 → o' i = if b i = 88 then 48 else b i) →
  (Mat b (val4 o') ∧ n ≤ val4 o' ∧ ∀ f, Mat b f → n ≤ f → val4 o' ≤ f) ∧ (∀ i, i < 4 → 48 ≤ o' i ∧ o' i ≤ 57)
def GoodD (b : Nat → Int) (n : Int) (j : Nat) (o : Nat → Int) : Prop := ∀ o' : Nat → Int, (∀ i, i < j → o' i = o i) → (∀ i, j ≤ i → i < 4 → o' i = if b i = 88 then 57 else b i) →
  (Mat b (val4 o') ∧ val4 o' ≤ n ∧ ∀ f, Mat b f → f ≤ n → f ≤ val4 o') ∧ (∀ i, i < 4 → 48 ≤ o' i ∧ o' i ≤ 57)
theorem dg_bd {n : Int} (h0 : 0 ≤ n) (h1 : n ≤ 9999) (i : Nat) : 0 ≤ dg n i ∧ dg n i ≤ 9 := by unfold dg; (repeat' split) <;> omega
theorem fill_bd {b : Nat → Int} (hb : MOk b) {x y : Int} {i : Nat} (hi : i < 4) (hx : 48 ≤ x ∧ x ≤ 57) (h : y = if b i = 88 then x else b i) : 48 ≤ y ∧ y ≤ 57 := by
  have := hb i hi
  rw [h]; split <;> omega
theorem goodU_here {b : Nat → Int} {n : Int} {k : Nat} (hb : MOk b) (h0 : 0 ≤ n) (h1 : n ≤ 9999) (hk : k < 4) (hf : ∀ i, i < k → fitD b n i) (hx : b k ≠ 88) (hg : 48 + dg n k < b k) : GoodU b n k (Dn n) := by
  intro o ho hr
  have ho' : ∀ i, i < k → o i = 48 + dg n i := fun i hi => by rw [ho i hi]; unfold Dn; rw [if_pos (by omega)]
  refine ⟨up_here hb h0 h1 hk hf hx hg ho' hr, fun i hi => ?_⟩
  by_cases c : i < k
  · rw [ho' i c]; have := dg_bd h0 h1 i; omega
  · exact fill_bd hb hi (by omega) (hr i (by omega) hi)
theorem goodD_here {b : Nat → Int} {n : Int} {k : Nat} (hb : MOk b) (h0 : 0 ≤ n) (h1 : n ≤ 9999) (hk : k < 4) (hf : ∀ i, i < k → fitD b n i) (hx : b k ≠ 88) (hg : b k < 48 + dg n k) : GoodD b n k (Dn n) := by
  intro o ho hr
  have ho' : ∀ i, i < k → o i = 48 + dg n i := fun i hi => by rw [ho i hi]; unfold Dn; rw [if_pos (by omega)]
  refine ⟨dn_here hb h0 h1 hk hf hx hg ho' hr, fun i hi => ?_⟩
  by_cases c : i < k
  · rw [ho' i c]; have := dg_bd h0 h1 i; omega
  · exact fill_bd hb hi (by omega) (hr i (by omega) hi)
theorem goodU_back {b : Nat → Int} {n : Int} {k j : Nat} (hb : MOk b) (h0 : 0 ≤ n) (h1 : n ≤ 9999) (hk : k < 4) (hf : ∀ i, i < k → fitD b n i) (hx : b k ≠ 88) (hg : b k < 48 + dg n k)
    (hj : j < k) (hbx : b j = 88) (hd : dg n j ≠ 9) (hn : ∀ i, j < i → i < k → ¬ (b i = 88 ∧ dg n i ≠ 9)) : GoodU b n (j + 1) (fun i => if i = j then 48 + dg n j + 1 else Dn n i) := by
  intro o ho hr
  have ho' : ∀ i, i < j → o i = 48 + dg n i := fun i hi => by rw [ho i (by omega)]; dsimp only; rw [if_neg (by omega)]; unfold Dn; rw [if_pos (by omega)]
  have hoj : o j = 48 + dg n j + 1 := by rw [ho j (by omega)]; dsimp only; rw [if_pos rfl]
  have hr' : ∀ i, j < i → i < 4 → o i = if b i = 88 then 48 else b i := fun i h1 h2 => hr i (by omega) h2
  refine ⟨up_back hb h0 h1 hk hf hx hg hj hbx hd hn ho' hoj hr', fun i hi => ?_⟩
  by_cases c : i < j
  · rw [ho' i c]; have := dg_bd h0 h1 i; omega
  · by_cases e : i = j
    · subst e; rw [hoj]; have := dg_bd h0 h1 i; omega
    · exact fill_bd hb hi (by omega) (hr i (by omega) hi)
theorem goodD_back {b : Nat → Int} {n : Int} {k j : Nat} (hb : MOk b) (h0 : 0 ≤ n) (h1 : n ≤ 9999) (hk : k < 4) (hf : ∀ i, i < k → fitD b n i) (hx : b k ≠ 88) (hg : 48 + dg n k < b k)
    (hj : j < k) (hbx : b j = 88) (hd : dg n j ≠ 0) (hn : ∀ i, j < i → i < k → ¬ (b i = 88 ∧ dg n i ≠ 0)) : GoodD b n (j + 1) (fun i => if i = j then 48 + dg n j - 1 else Dn n i) := by
  intro o ho hr
  have ho' : ∀ i, i < j → o i = 48 + dg n i := fun i hi => by rw [ho i (by omega)]; dsimp only; rw [if_neg (by omega)]; unfold Dn; rw [if_pos (by omega)]
  have hoj : o j = 48 + dg n j - 1 := by rw [ho j (by omega)]; dsimp only; rw [if_pos rfl]
  have hr' : ∀ i, j < i → i < 4 → o i = if b i = 88 then 57 else b i := fun i h1 h2 => hr i (by omega) h2
  refine ⟨dn_back hb h0 h1 hk hf hx hg hj hbx hd hn ho' hoj hr', fun i hi => ?_⟩
  by_cases c : i < j
  · rw [ho' i c]; have := dg_bd h0 h1 i; omega
  · by_cases e : i = j
    · subst e; rw [hoj]; have := dg_bd h0 h1 i; omega
    · exact fill_bd hb hi (by omega) (hr i (by omega) hi)

set_option maxHeartbeats 8000000 in
theorem beyondUp_any (s : ByteArray) (n : Int) (w : World) (h4 : s.size = 4) (hx : allB isDigX s = true) (h0 : 0 ≤ n) (h1 : n ≤ 9999) :
    Calls Tryz.prog 179 #[.string s, .int .i64 n, .bool true] w (RetII (NextR (byt s) n) w) := by
  have hb := mok_of h4 hx
  have HS : Hid (∀ w, Calls Tryz.prog 192 #[.string s, .int .i64 n] w fun r w' => r = .returned (.agg (lst18 (Dn n)).toArray) ∧ Below w.heap.size w w') := Lib.hid (fun w => by rw [lst18_eq]; exact split_any s n w h4 h0 h1)
  have HV : Hid (∀ (o : Nat → Int) (w : World), (∀ i, i < 4 → 48 ≤ o i ∧ o i ≤ 57) → Calls Tryz.prog 193 #[.string s, .agg (lst18 o).toArray] w fun r w' => r = .returned (.int .i64 (val4 o)) ∧ Below w.heap.size w w') := Lib.hid (fun o w hd => by rw [lst18_eq]; exact value_any s o w h4 hd)
  have H4 := Lib.hid h4
  have HM := Lib.hid hb
  have HH := Lib.hid (⟨h0, h1⟩ : 0 ≤ n ∧ n ≤ 9999)
  clear h4 hx hb
  go_enter Tryz.func179, Tryz.ntmps179
  go_upto_region 4 with (fail)
  go_cut [10] (fun s10 wx => ∃ pa, s10 = .pointer (some ⟨pa, 0, none⟩) ∧ Ar pa (Dn n) w wx)
  case first =>
    clear HV
    go_wp2_with (first
      | (go_at_call 192; with_reducible refine (HS.out _).mono ?_; rintro _ w1 ⟨rfl, hb1⟩; have z1 := Ar.fresh0 hb1 215)
      | (refine wpList_store_mid rfl 215 (.tmp 10) (.tmp 19) rfl w1.heap.size 0 (lst18 (Dn n)).toArray rfl rfl z1.there info_digits (one18 (Dn n)) ?_))
    go_meet
    exact ⟨_, rfl, z1.setAll _⟩
  case rest =>
    obtain ⟨pa, rfl, hA⟩ := hcut
    clear HS
    go_upto_region 5 with (fail)
    go_cut [11] (fun s11 wx => ∃ pb, s11 = .pointer (some ⟨pb, 0, none⟩) ∧ pb ≠ pa ∧ Ar pa (Dn n) w wx ∧ Ar pb (Dn n) w wx)
    case first =>
      clear HV
      have hR := hA.range
      have z1 := Ar.fresh0 hA.below 215
      have hne : wc.heap.size ≠ pa := by have := World.block_lt_of_cell? _ _ (hA.cell 0 (by omega)); show wc.heap.size ≠ pa; have h2 : pa < wc.heap.size := this; omega
      have hA2 := Lib.hid ((hA.alloc (.cells #[.int .u8 0, .int .u8 0, .int .u8 0, .int .u8 0, .int .u8 0, .int .u8 0, .int .u8 0, .int .u8 0, .int .u8 0, .int .u8 0, .int .u8 0, .int .u8 0, .int .u8 0, .int .u8 0, .int .u8 0, .int .u8 0, .int .u8 0, .int .u8 0] 215)).others hne hA.below.size (lst18 (Dn n)).toArray.toList 0)
      clear hA
      go_wp2_with (first
        | (refine wpList_load_mid rfl 215 (.tmp 10) rfl pa 0 rfl (lst18 (Dn n)) _ hR Tryz.underlying215 rfl info_digits ?_)
        | (refine wpList_store_mid rfl 215 (.tmp 11) (.tmp 20) rfl wc.heap.size 0 (lst18 (Dn n)).toArray rfl rfl z1.there info_digits (one18 (Dn n)) ?_))
      go_meet
      exact ⟨_, rfl, hne, hA2.out, z1.setAll _⟩
    case rest =>
      obtain ⟨pb, rfl, hne, hA, hB⟩ := hcut
      have HNE := Lib.hid hne
      clear hne
      go_upto_block 0 with (fail)
      go_wp2
      go_loopw [12] (fun i wx => ∃ k : Nat, k ≤ 4 ∧ i = .int .i64 k ∧ (∀ i, i < k → fitD (byt s) n i) ∧ Ar pa (Dn n) w wx ∧ Ar pb (Dn n) w wx) (fun i _ => 4 - (intOf i).toNat)
      case atStart => exact ⟨0, Nat.zero_le _, rfl, fun i hi => by omega, hA, hB⟩
      case round =>
        obtain ⟨k, hk, rfl, hf, hA2, hB2⟩ := hrel
        clear hA hB
        have HF := Lib.hid hf
        clear hf
        by_cases hlt : k < 4
        · have hks : k < s.size := by have := H4.out; omega
          have hks2 : (k : Int) < s.size := by omega
          have hc := hA2.cell k (by omega)
          have hd : Dn n k = 48 + dg n k := by unfold Dn; rw [if_pos hlt]
          have hbk := byt_get s k hks
          rw [hd] at hc
          have HC := Lib.hid hbk
          have hk18 : (k : Int) < 18 := by omega
          replace hA2 := Lib.hid hA2
          replace hB2 := Lib.hid hB2
          clear hd hbk
          obtain ⟨d, hdd⟩ : ∃ d, d = dg n k := ⟨_, rfl⟩
          rw [← hdd] at hc
          replace hdd := Lib.hid hdd
          by_cases c1 : ((s[k]'hks).toNat : Int) = 88
          · as_aux_lemma =>
              have t1 : (((s[k]'hks).toNat : Int) == 88) = true := by rw [c1]; rfl
              have HFn : ∀ i, i < k + 1 → fitD (byt s) n i := by
                intro i hi
                by_cases e : i = k
                · subst e; exact .inl (by rw [HC.out, c1])
                · exact HF.out i (by omega)
              replace HFn := Lib.hid HFn
              clear c1
              go_wp2
              go_quiet (fail)
              go_wp2
              go_roundw
              case rel => exact ⟨k + 1, by omega, by go_num, HFn.out, hA2.out.later (below_drewN (Below.refl _ _) _), hB2.out.later (below_drewN (Below.refl _ _) _)⟩
              case measure => simp [intOf]; omega
          · have t1 : (((s[k]'hks).toNat : Int) == 88) = false := by rw [beq_eq_false_iff_ne]; exact c1
            by_cases c2 : ((s[k]'hks).toNat : Int) = 48 + d
            · as_aux_lemma =>
                have t2 : (((s[k]'hks).toNat : Int) == 48 + d) = true := by rw [c2]; exact beq_self_eq_true _
                have HFn : ∀ i, i < k + 1 → fitD (byt s) n i := by
                  intro i hi
                  by_cases e : i = k
                  · subst e; exact .inr (by rw [HC.out, c2, hdd.out])
                  · exact HF.out i (by omega)
                replace HFn := Lib.hid HFn
                clear c1 c2
                go_wp2
                go_quiet (fail)
                go_wp2
                go_roundw
                case rel => exact ⟨k + 1, by omega, by go_num, HFn.out, hA2.out.later (below_drewN (Below.refl _ _) _), hB2.out.later (below_drewN (Below.refl _ _) _)⟩
                case measure => simp [intOf]; omega
            · as_aux_lemma =>
                have t2 : (((s[k]'hks).toNat : Int) == 48 + d) = false := by rw [beq_eq_false_iff_ne]; exact c2
                have t3 : ((k : Int) == (s.size : Int)) = false := by rw [beq_eq_false_iff_ne]; omega
                have C1 := Lib.hid c1
                clear c1
                go_wp2
                go_quiet (fail)
                rename_i nq
                replace hA2 := Lib.hid (hA2.out.later (below_drewN (Below.refl wr.heap.size wr) nq))
                replace hB2 := Lib.hid (hB2.out.later (below_drewN (Below.refl wr.heap.size wr) nq))
                have hc2 : (wr.drewN nq).cell? ⟨pa, k, none⟩ = some (.int .u8 (48 + d)) := hc
                clear hc
                generalize wr.drewN nq = W2 at *
                go_wp2
                obtain ⟨BK, hBK⟩ : ∃ b : Bool, b = decide (((s[k]'hks).toNat : Int) < 48 + d) := ⟨_, rfl⟩
                go_upto_region 11 with (fail)
                go_cut [55] (fun s55 wx => s55 = .bool BK ∧ ∃ nq, wx = W2.drewN nq)
                case first =>
                  as_aux_lemma =>
                    by_cases hh : 48 + d < ((s[k]'hks).toNat : Int)
                    · obtain rfl : BK = false := by rw [hBK]; exact decide_eq_false (by omega)
                      clear hBK
                      have hcmp : decide (48 + d < ((s[k]'hks).toNat : Int)) = true := by first | exact decide_eq_true (by omega) | exact decide_eq_false (by omega)
                      go_quiet (fail)
                      go_wp2
                      go_meet
                      exact ⟨rfl, _, rfl⟩
                    · have hh2 : ((s[k]'hks).toNat : Int) < 48 + d := by omega
                      obtain rfl : BK = true := by rw [hBK]; exact decide_eq_true hh2
                      have hcmp : decide (48 + d < ((s[k]'hks).toNat : Int)) = false := by first | exact decide_eq_true (by omega) | exact decide_eq_false (by omega)
                      clear hBK hh
                      go_quiet (fail)
                      go_wp2
                      go_meet
                      exact ⟨rfl, _, rfl⟩
                case rest =>
                  obtain ⟨rfl, nq2, rfl⟩ := hcut
                  replace hA2 := Lib.hid (hA2.out.later (below_drewN (Below.refl W2.heap.size W2) nq2))
                  replace hB2 := Lib.hid (hB2.out.later (below_drewN (Below.refl W2.heap.size W2) nq2))
                  clear hc2 t1 t2 t3
                  generalize W2.drewN nq2 = W3 at *
                  go_upto_if 55 with (fail)
                  go_cut [12] (fun s12 wx => ∃ (j : Nat) (o : Nat → Int), j ≤ 4 ∧ s12 = .int .i64 j ∧ Ar pb o w wx ∧ GoodU (byt s) n j o)
                  case first =>
                    as_aux_lemma =>
                      clear HV
                      cases BK
                      · have hh : 48 + d < ((s[k]'hks).toNat : Int) := by have := of_decide_eq_false hBK.symm; omega
                        have HG := goodU_here HM.out HH.out.1 HH.out.2 hlt HF.out (by rw [HC.out]; exact C1.out) (by rw [HC.out, ← hdd.out]; exact hh)
                        replace HG := Lib.hid HG
                        clear hBK hh
                        go_wp2
                        go_meet
                        exact ⟨k, Dn n, by omega, rfl, hB2.out, HG.out⟩
                      · have hh : ((s[k]'hks).toNat : Int) < 48 + d := of_decide_eq_true hBK.symm
                        have hg2 := Lib.hid (show byt s k < 48 + dg n k by rw [HC.out, ← hdd.out]; exact hh)
                        clear hBK hh hdd
                        go_wp2
                        go_step3
                        go_wp2
                        go_step3
                        go_wp2
                        go_loopw [12] (fun i wx => ∃ m : Nat, m ≤ k ∧ i = .int .i64 m ∧ (∀ i, m ≤ i → i < k → ¬ (byt s i = 88 ∧ dg n i ≠ 9)) ∧ Ar pa (Dn n) w wx ∧ Ar pb (Dn n) w wx) (fun i _ => (intOf i).toNat)
                        case atStart => exact ⟨k, Nat.le_refl _, rfl, fun i h1 h2 => by omega, hA2.out, hB2.out⟩
                        case round =>
                          obtain ⟨m, hm, hi, hno, hA3, hB3⟩ := hrel
                          clear hA2 hB2
                          have HNO := Lib.hid hno
                          clear hno
                          by_cases hm0 : 0 < m
                          · obtain ⟨q, rfl⟩ : ∃ q, m = q + 1 := ⟨m - 1, by omega⟩
                            rw [show (((q + 1 : Nat)) : Int) = (q : Int) + 1 by omega] at hi
                            subst hi
                            have hq4 : q < 4 := by omega
                            have hqs : q < s.size := by omega
                            have hqs2 : (q : Int) < s.size := by omega
                            have hq18 : (q : Int) < 18 := by omega
                            have hca := hA3.cell q (by omega)
                            have hcb := hB3.cell q (by omega)
                            have hfb := hB3.free q (by omega)
                            have hDq : Dn n q = 48 + dg n q := by unfold Dn; rw [if_pos hq4]
                            rw [hDq] at hca hcb
                            have hbq := Lib.hid (byt_get s q hqs)
                            have hqb := dg_bd HH.out.1 HH.out.2 q
                            obtain ⟨e, he⟩ : ∃ e, e = dg n q := ⟨_, rfl⟩
                            rw [← he] at hca hcb hqb
                            replace he := Lib.hid he
                            obtain ⟨b0, b1⟩ := hqb
                            clear hDq
                            have hX := Lib.hid (hB3.set q (by omega) (48 + e + 1))
                            by_cases g1 : ((s[q]'hqs).toNat : Int) = 88
                            · by_cases g2 : e = 9
                              · as_aux_lemma =>
                                  have u1 : (((s[q]'hqs).toNat : Int) == 88) = true := by rw [g1]; rfl
                                  have u2 : (48 + e != 57) = false := by rw [g2]; rfl
                                  have hN : ∀ i, q ≤ i → i < k → ¬ (byt s i = 88 ∧ dg n i ≠ 9) := by
                                    intro i h1 h2
                                    by_cases c : i = q
                                    · subst c; rintro ⟨_, h⟩; exact h (by rw [← he.out]; exact g2)
                                    · exact HNO.out i (by omega) h2
                                  replace hN := Lib.hid hN
                                  replace hA3 := Lib.hid hA3
                                  replace hB3 := Lib.hid hB3
                                  clear g1 g2
                                  go_wp2
                                  go_roundw
                                  case rel => exact ⟨q, by omega, rfl, hN.out, hA3.out, hB3.out⟩
                                  case measure => simp [intOf]
                              · as_aux_lemma =>
                                  have u1 : (((s[q]'hqs).toNat : Int) == 88) = true := by rw [g1]; rfl
                                  have u2 : (48 + e != 57) = true := by rw [bne_iff_ne]; omega
                                  have hGd : GoodU (byt s) n (q + 1) (fun i => if i = q then 48 + dg n q + 1 else Dn n i) := goodU_back HM.out HH.out.1 HH.out.2 hlt HF.out (by rw [HC.out]; exact C1.out) hg2.out (by omega) (by rw [hbq.out]; exact g1) (by rw [← he.out]; exact g2) (fun i h1 h2 => HNO.out i (by omega) h2)
                                  rw [← he.out] at hGd
                                  replace hGd := Lib.hid hGd
                                  have ee : e ≤ 8 := by omega
                                  replace hA3 := Lib.hid hA3
                                  replace hB3 := Lib.hid hB3
                                  clear g1 g2
                                  go_wp2
                                  rw [Exit.noGoto_normal]
                                  go_wp2
                                  go_meet
                                  exact ⟨q + 1, _, by omega, by go_num, hX.out, hGd.out⟩
                            · as_aux_lemma =>
                                have u1 : (((s[q]'hqs).toNat : Int) == 88) = false := by rw [beq_eq_false_iff_ne]; exact g1
                                have hN : ∀ i, q ≤ i → i < k → ¬ (byt s i = 88 ∧ dg n i ≠ 9) := by
                                  intro i h1 h2
                                  by_cases c : i = q
                                  · subst c; rintro ⟨h, _⟩; exact g1 (by rw [← hbq.out]; exact h)
                                  · exact HNO.out i (by omega) h2
                                replace hN := Lib.hid hN
                                replace hA3 := Lib.hid hA3
                                replace hB3 := Lib.hid hB3
                                clear g1
                                go_wp2
                                go_roundw
                                case rel => exact ⟨q, by omega, rfl, hN.out, hA3.out, hB3.out⟩
                                case measure => simp [intOf]
                          · as_aux_lemma =>
                              obtain rfl : m = 0 := by omega
                              subst hi
                              have hN : NextR (byt s) n 0 16 := .inr ⟨rfl, rfl, up_none HH.out.1 HH.out.2 hlt HF.out (by rw [HC.out]; exact C1.out) hg2.out (fun i hi => HNO.out i (by omega) hi)⟩
                              replace hN := Lib.hid hN
                              have HB := Lib.hid hA3.below
                              clear hA3 hB3
                              go_wp2
                              rw [Exit.noGoto_ret]
                              go_wp2
                              go_ret2
                              exact ⟨_, _, hN.out, rfl, HB.out⟩
                  case rest =>
                    as_aux_lemma =>
                      obtain ⟨j, o, hj, rfl, hO, hG⟩ := hcut
                      clear hA2 hB2 hBK
                      have HG := Lib.hid hG
                      clear hG
                      go_wp2
                      go_loopw [12] (fun i wx => ∃ (m : Nat) (o2 : Nat → Int), m ≤ 4 ∧ j ≤ m ∧ i = .int .i64 m ∧ Ar pb o2 w wx ∧ (∀ i, i < j → o2 i = o i) ∧ (∀ i, j ≤ i → i < m → o2 i = if byt s i = 88 then 48 else byt s i)) (fun i _ => 4 - (intOf i).toNat)
                      case atStart => exact ⟨j, o, hj, Nat.le_refl _, rfl, hO, fun i _ => rfl, fun i h1 h2 => by omega⟩
                      case round =>
                        obtain ⟨m, o2, hm, hjm, rfl, hO2, hlo, hfi⟩ := hrel
                        clear hO
                        have HLO := Lib.hid hlo
                        have HFI := Lib.hid hfi
                        clear hlo hfi
                        by_cases hm4 : m < 4
                        · as_aux_lemma =>
                            have hms : m < s.size := by have := H4.out; omega
                            have hms2 : (m : Int) < s.size := by omega
                            have hm18 : (m : Int) < 18 := by omega
                            have hbm := byt_get s m hms
                            have hcm := hO2.cell m (by omega)
                            have hfm := hO2.free m (by omega)
                            have hX1 := hO2.set m (by omega) ((s[m]'hms).toNat : Int)
                            have hc1 := hX1.cell m (by omega)
                            have hf1 := hX1.free m (by omega)
                            by_cases g1 : ((s[m]'hms).toNat : Int) = 88
                            · have u1 : (((s[m]'hms).toNat : Int) == 88) = true := by rw [g1]; rfl
                              have hX2 := (hX1.set m (by omega) 48).congr (o' := fun i => if i = m then (if byt s m = 88 then 48 else byt s m) else o2 i) (fun i _ => by
                                (try dsimp only)
                                by_cases c : i = m
                                · rw [if_pos c, if_pos c, if_pos (by rw [hbm]; exact g1)]
                                · rw [if_neg c, if_neg c, if_neg c])
                              replace hX2 := Lib.hid hX2
                              replace hO2 := Lib.hid hO2
                              clear hX1 hc1 hbm g1
                              go_wp2
                              go_roundw
                              case rel => exact ⟨m + 1, _, by omega, by omega, by go_num, hX2.out, fun i hi => by (try dsimp only); rw [if_neg (by omega)]; exact HLO.out i hi, fun i h1 h2 => by
                                (try dsimp only)
                                by_cases c : i = m
                                · subst c; rw [if_pos rfl]
                                · rw [if_neg c]; exact HFI.out i h1 (by omega)⟩
                              case measure => simp [intOf]; omega
                            · have u1 : (((s[m]'hms).toNat : Int) == 88) = false := by rw [beq_eq_false_iff_ne]; exact g1
                              have hX2 := hX1.congr (o' := fun i => if i = m then (if byt s m = 88 then 48 else byt s m) else o2 i) (fun i _ => by
                                (try dsimp only)
                                by_cases c : i = m
                                · rw [if_pos c, if_pos c, if_neg (by rw [hbm]; exact g1), hbm]
                                · rw [if_neg c, if_neg c])
                              replace hX2 := Lib.hid hX2
                              replace hO2 := Lib.hid hO2
                              clear hX1 hc1 hf1 hbm g1
                              go_wp2
                              go_roundw
                              case rel => exact ⟨m + 1, _, by omega, by omega, by go_num, hX2.out, fun i hi => by (try dsimp only); rw [if_neg (by omega)]; exact HLO.out i hi, fun i h1 h2 => by
                                (try dsimp only)
                                by_cases c : i = m
                                · subst c; rw [if_pos rfl]
                                · rw [if_neg c]; exact HFI.out i h1 (by omega)⟩
                              case measure => simp [intOf]; omega
                        · as_aux_lemma =>
                            obtain rfl : m = 4 := by omega
                            obtain ⟨hv, hb⟩ := HG.out o2 HLO.out HFI.out
                            have hV := Lib.hid (fun w => HV.out o2 w hb)
                            have hN : NextR (byt s) n (val4 o2) 0 := .inl ⟨rfl, hv⟩
                            replace hN := Lib.hid hN
                            have hms2 : ((4 : Nat) : Int) < s.size → False := by have := H4.out; omega
                            have hR := hO2.range
                            have HB := Lib.hid hO2.below
                            have h4b := H4.out
                            clear hO2 HG HFI HLO hv hb
                            go_wp2_with (first
                              | (refine wpList_load_mid rfl 215 (.tmp 11) rfl pb 0 rfl (lst18 o2) _ hR Tryz.underlying215 rfl info_digits ?_)
                              | (go_at_call 193; with_reducible refine (hV.out _).mono ?_; rintro _ w9 ⟨rfl, hb9⟩))
                            go_ret2
                            exact ⟨_, _, hN.out, rfl, bt HB.out hb9⟩
        · as_aux_lemma =>
            obtain rfl : k = 4 := by omega
            have hN : NextR (byt s) n n 0 := .inl ⟨rfl, mat_self HH.out.1 HH.out.2 HF.out, Int.le_refl _, fun f _ hf => hf⟩
            replace hN := Lib.hid hN
            have HB := Lib.hid hA2.below
            have h4b := H4.out
            clear hA2 hB2
            go_wp2
            go_quiet (fail)
            go_wp2
            go_ret2
            exact ⟨_, _, hN.out, rfl, below_drewN HB.out _⟩

set_option maxHeartbeats 8000000 in
theorem beyondDn_any (s : ByteArray) (n : Int) (w : World) (h4 : s.size = 4) (hx : allB isDigX s = true) (h0 : 0 ≤ n) (h1 : n ≤ 9999) :
    Calls Tryz.prog 179 #[.string s, .int .i64 n, .bool false] w (RetII (PrevR (byt s) n) w) := by
  have hb := mok_of h4 hx
  have HS : Hid (∀ w, Calls Tryz.prog 192 #[.string s, .int .i64 n] w fun r w' => r = .returned (.agg (lst18 (Dn n)).toArray) ∧ Below w.heap.size w w') := Lib.hid (fun w => by rw [lst18_eq]; exact split_any s n w h4 h0 h1)
  have HV : Hid (∀ (o : Nat → Int) (w : World), (∀ i, i < 4 → 48 ≤ o i ∧ o i ≤ 57) → Calls Tryz.prog 193 #[.string s, .agg (lst18 o).toArray] w fun r w' => r = .returned (.int .i64 (val4 o)) ∧ Below w.heap.size w w') := Lib.hid (fun o w hd => by rw [lst18_eq]; exact value_any s o w h4 hd)
  have H4 := Lib.hid h4
  have HM := Lib.hid hb
  have HH := Lib.hid (⟨h0, h1⟩ : 0 ≤ n ∧ n ≤ 9999)
  clear h4 hx hb
  go_enter Tryz.func179, Tryz.ntmps179
  go_upto_region 4 with (fail)
  go_cut [10] (fun s10 wx => ∃ pa, s10 = .pointer (some ⟨pa, 0, none⟩) ∧ Ar pa (Dn n) w wx)
  case first =>
    clear HV
    go_wp2_with (first
      | (go_at_call 192; with_reducible refine (HS.out _).mono ?_; rintro _ w1 ⟨rfl, hb1⟩; have z1 := Ar.fresh0 hb1 215)
      | (refine wpList_store_mid rfl 215 (.tmp 10) (.tmp 19) rfl w1.heap.size 0 (lst18 (Dn n)).toArray rfl rfl z1.there info_digits (one18 (Dn n)) ?_))
    go_meet
    exact ⟨_, rfl, z1.setAll _⟩
  case rest =>
    obtain ⟨pa, rfl, hA⟩ := hcut
    clear HS
    go_upto_region 5 with (fail)
    go_cut [11] (fun s11 wx => ∃ pb, s11 = .pointer (some ⟨pb, 0, none⟩) ∧ pb ≠ pa ∧ Ar pa (Dn n) w wx ∧ Ar pb (Dn n) w wx)
    case first =>
      clear HV
      have hR := hA.range
      have z1 := Ar.fresh0 hA.below 215
      have hne : wc.heap.size ≠ pa := by have := World.block_lt_of_cell? _ _ (hA.cell 0 (by omega)); show wc.heap.size ≠ pa; have h2 : pa < wc.heap.size := this; omega
      have hA2 := Lib.hid ((hA.alloc (.cells #[.int .u8 0, .int .u8 0, .int .u8 0, .int .u8 0, .int .u8 0, .int .u8 0, .int .u8 0, .int .u8 0, .int .u8 0, .int .u8 0, .int .u8 0, .int .u8 0, .int .u8 0, .int .u8 0, .int .u8 0, .int .u8 0, .int .u8 0, .int .u8 0] 215)).others hne hA.below.size (lst18 (Dn n)).toArray.toList 0)
      clear hA
      go_wp2_with (first
        | (refine wpList_load_mid rfl 215 (.tmp 10) rfl pa 0 rfl (lst18 (Dn n)) _ hR Tryz.underlying215 rfl info_digits ?_)
        | (refine wpList_store_mid rfl 215 (.tmp 11) (.tmp 20) rfl wc.heap.size 0 (lst18 (Dn n)).toArray rfl rfl z1.there info_digits (one18 (Dn n)) ?_))
      go_meet
      exact ⟨_, rfl, hne, hA2.out, z1.setAll _⟩
    case rest =>
      obtain ⟨pb, rfl, hne, hA, hB⟩ := hcut
      have HNE := Lib.hid hne
      clear hne
      go_upto_block 0 with (fail)
      go_wp2
      go_loopw [12] (fun i wx => ∃ k : Nat, k ≤ 4 ∧ i = .int .i64 k ∧ (∀ i, i < k → fitD (byt s) n i) ∧ Ar pa (Dn n) w wx ∧ Ar pb (Dn n) w wx) (fun i _ => 4 - (intOf i).toNat)
      case atStart => exact ⟨0, Nat.zero_le _, rfl, fun i hi => by omega, hA, hB⟩
      case round =>
        obtain ⟨k, hk, rfl, hf, hA2, hB2⟩ := hrel
        clear hA hB
        have HF := Lib.hid hf
        clear hf
        by_cases hlt : k < 4
        · have hks : k < s.size := by have := H4.out; omega
          have hks2 : (k : Int) < s.size := by omega
          have hc := hA2.cell k (by omega)
          have hd : Dn n k = 48 + dg n k := by unfold Dn; rw [if_pos hlt]
          have hbk := byt_get s k hks
          rw [hd] at hc
          have HC := Lib.hid hbk
          have hk18 : (k : Int) < 18 := by omega
          replace hA2 := Lib.hid hA2
          replace hB2 := Lib.hid hB2
          clear hd hbk
          obtain ⟨d, hdd⟩ : ∃ d, d = dg n k := ⟨_, rfl⟩
          rw [← hdd] at hc
          replace hdd := Lib.hid hdd
          by_cases c1 : ((s[k]'hks).toNat : Int) = 88
          · as_aux_lemma =>
              have t1 : (((s[k]'hks).toNat : Int) == 88) = true := by rw [c1]; rfl
              have HFn : ∀ i, i < k + 1 → fitD (byt s) n i := by
                intro i hi
                by_cases e : i = k
                · subst e; exact .inl (by rw [HC.out, c1])
                · exact HF.out i (by omega)
              replace HFn := Lib.hid HFn
              clear c1
              go_wp2
              go_quiet (fail)
              go_wp2
              go_roundw
              case rel => exact ⟨k + 1, by omega, by go_num, HFn.out, hA2.out.later (below_drewN (Below.refl _ _) _), hB2.out.later (below_drewN (Below.refl _ _) _)⟩
              case measure => simp [intOf]; omega
          · have t1 : (((s[k]'hks).toNat : Int) == 88) = false := by rw [beq_eq_false_iff_ne]; exact c1
            by_cases c2 : ((s[k]'hks).toNat : Int) = 48 + d
            · as_aux_lemma =>
                have t2 : (((s[k]'hks).toNat : Int) == 48 + d) = true := by rw [c2]; exact beq_self_eq_true _
                have HFn : ∀ i, i < k + 1 → fitD (byt s) n i := by
                  intro i hi
                  by_cases e : i = k
                  · subst e; exact .inr (by rw [HC.out, c2, hdd.out])
                  · exact HF.out i (by omega)
                replace HFn := Lib.hid HFn
                clear c1 c2
                go_wp2
                go_quiet (fail)
                go_wp2
                go_roundw
                case rel => exact ⟨k + 1, by omega, by go_num, HFn.out, hA2.out.later (below_drewN (Below.refl _ _) _), hB2.out.later (below_drewN (Below.refl _ _) _)⟩
                case measure => simp [intOf]; omega
            · as_aux_lemma =>
                have t2 : (((s[k]'hks).toNat : Int) == 48 + d) = false := by rw [beq_eq_false_iff_ne]; exact c2
                have t3 : ((k : Int) == (s.size : Int)) = false := by rw [beq_eq_false_iff_ne]; omega
                have C1 := Lib.hid c1
                clear c1
                go_wp2
                go_quiet (fail)
                rename_i nq
                replace hA2 := Lib.hid (hA2.out.later (below_drewN (Below.refl wr.heap.size wr) nq))
                replace hB2 := Lib.hid (hB2.out.later (below_drewN (Below.refl wr.heap.size wr) nq))
                have hc2 : (wr.drewN nq).cell? ⟨pa, k, none⟩ = some (.int .u8 (48 + d)) := hc
                clear hc
                generalize wr.drewN nq = W2 at *
                go_wp2
                obtain ⟨BK, hBK⟩ : ∃ b : Bool, b = decide (48 + d < ((s[k]'hks).toNat : Int)) := ⟨_, rfl⟩
                go_upto_region 11 with (fail)
                go_cut [55] (fun s55 wx => s55 = .bool BK ∧ ∃ nq, wx = W2.drewN nq)
                case first =>
                  as_aux_lemma =>
                    by_cases hh : ((s[k]'hks).toNat : Int) < 48 + d
                    · obtain rfl : BK = false := by rw [hBK]; exact decide_eq_false (by omega)
                      clear hBK
                      have hcmp : decide (48 + d < ((s[k]'hks).toNat : Int)) = false := by first | exact decide_eq_true (by omega) | exact decide_eq_false (by omega)
                      go_quiet (fail)
                      go_wp2
                      go_meet
                      exact ⟨rfl, _, rfl⟩
                    · have hh2 : 48 + d < ((s[k]'hks).toNat : Int) := by omega
                      obtain rfl : BK = true := by rw [hBK]; exact decide_eq_true hh2
                      have hcmp : decide (48 + d < ((s[k]'hks).toNat : Int)) = true := by first | exact decide_eq_true (by omega) | exact decide_eq_false (by omega)
                      clear hBK hh
                      go_quiet (fail)
                      go_wp2
                      go_meet
                      exact ⟨rfl, _, rfl⟩
                case rest =>
                  obtain ⟨rfl, nq2, rfl⟩ := hcut
                  replace hA2 := Lib.hid (hA2.out.later (below_drewN (Below.refl W2.heap.size W2) nq2))
                  replace hB2 := Lib.hid (hB2.out.later (below_drewN (Below.refl W2.heap.size W2) nq2))
                  clear hc2 t1 t2 t3
                  generalize W2.drewN nq2 = W3 at *
                  go_upto_if 55 with (fail)
                  go_cut [12] (fun s12 wx => ∃ (j : Nat) (o : Nat → Int), j ≤ 4 ∧ s12 = .int .i64 j ∧ Ar pb o w wx ∧ GoodD (byt s) n j o)
                  case first =>
                    as_aux_lemma =>
                      clear HV
                      cases BK
                      · have hh : ((s[k]'hks).toNat : Int) < 48 + d := by have := of_decide_eq_false hBK.symm; omega
                        have HG := goodD_here HM.out HH.out.1 HH.out.2 hlt HF.out (by rw [HC.out]; exact C1.out) (by rw [HC.out, ← hdd.out]; exact hh)
                        replace HG := Lib.hid HG
                        clear hBK hh
                        go_wp2
                        go_meet
                        exact ⟨k, Dn n, by omega, rfl, hB2.out, HG.out⟩
                      · have hh : 48 + d < ((s[k]'hks).toNat : Int) := of_decide_eq_true hBK.symm
                        have hg2 := Lib.hid (show 48 + dg n k < byt s k by rw [HC.out, ← hdd.out]; exact hh)
                        clear hBK hh hdd
                        go_wp2
                        go_step3
                        go_wp2
                        go_step3
                        go_wp2
                        go_loopw [12] (fun i wx => ∃ m : Nat, m ≤ k ∧ i = .int .i64 m ∧ (∀ i, m ≤ i → i < k → ¬ (byt s i = 88 ∧ dg n i ≠ 0)) ∧ Ar pa (Dn n) w wx ∧ Ar pb (Dn n) w wx) (fun i _ => (intOf i).toNat)
                        case atStart => exact ⟨k, Nat.le_refl _, rfl, fun i h1 h2 => by omega, hA2.out, hB2.out⟩
                        case round =>
                          obtain ⟨m, hm, hi, hno, hA3, hB3⟩ := hrel
                          clear hA2 hB2
                          have HNO := Lib.hid hno
                          clear hno
                          by_cases hm0 : 0 < m
                          · obtain ⟨q, rfl⟩ : ∃ q, m = q + 1 := ⟨m - 1, by omega⟩
                            rw [show (((q + 1 : Nat)) : Int) = (q : Int) + 1 by omega] at hi
                            subst hi
                            have hq4 : q < 4 := by omega
                            have hqs : q < s.size := by omega
                            have hqs2 : (q : Int) < s.size := by omega
                            have hq18 : (q : Int) < 18 := by omega
                            have hca := hA3.cell q (by omega)
                            have hcb := hB3.cell q (by omega)
                            have hfb := hB3.free q (by omega)
                            have hDq : Dn n q = 48 + dg n q := by unfold Dn; rw [if_pos hq4]
                            rw [hDq] at hca hcb
                            have hbq := Lib.hid (byt_get s q hqs)
                            have hqb := dg_bd HH.out.1 HH.out.2 q
                            obtain ⟨e, he⟩ : ∃ e, e = dg n q := ⟨_, rfl⟩
                            rw [← he] at hca hcb hqb
                            replace he := Lib.hid he
                            obtain ⟨b0, b1⟩ := hqb
                            clear hDq
                            have hX := Lib.hid (hB3.set q (by omega) (48 + e - 1))
                            by_cases g1 : ((s[q]'hqs).toNat : Int) = 88
                            · by_cases g2 : e = 0
                              · as_aux_lemma =>
                                  have u1 : (((s[q]'hqs).toNat : Int) == 88) = true := by rw [g1]; rfl
                                  have u2 : (48 + e != 48) = false := by rw [g2]; rfl
                                  have hN : ∀ i, q ≤ i → i < k → ¬ (byt s i = 88 ∧ dg n i ≠ 0) := by
                                    intro i h1 h2
                                    by_cases c : i = q
                                    · subst c; rintro ⟨_, h⟩; exact h (by rw [← he.out]; exact g2)
                                    · exact HNO.out i (by omega) h2
                                  replace hN := Lib.hid hN
                                  replace hA3 := Lib.hid hA3
                                  replace hB3 := Lib.hid hB3
                                  clear g1 g2
                                  go_wp2
                                  go_roundw
                                  case rel => exact ⟨q, by omega, rfl, hN.out, hA3.out, hB3.out⟩
                                  case measure => simp [intOf]
                              · as_aux_lemma =>
                                  have u1 : (((s[q]'hqs).toNat : Int) == 88) = true := by rw [g1]; rfl
                                  have u2 : (48 + e != 48) = true := by rw [bne_iff_ne]; omega
                                  have hGd : GoodD (byt s) n (q + 1) (fun i => if i = q then 48 + dg n q - 1 else Dn n i) := goodD_back HM.out HH.out.1 HH.out.2 hlt HF.out (by rw [HC.out]; exact C1.out) hg2.out (by omega) (by rw [hbq.out]; exact g1) (by rw [← he.out]; exact g2) (fun i h1 h2 => HNO.out i (by omega) h2)
                                  rw [← he.out] at hGd
                                  replace hGd := Lib.hid hGd
                                  have ee : 1 ≤ e := by omega
                                  replace hA3 := Lib.hid hA3
                                  replace hB3 := Lib.hid hB3
                                  clear g1 g2
                                  go_wp2
                                  rw [Exit.noGoto_normal]
                                  go_wp2
                                  go_meet
                                  exact ⟨q + 1, _, by omega, by go_num, hX.out, hGd.out⟩
                            · as_aux_lemma =>
                                have u1 : (((s[q]'hqs).toNat : Int) == 88) = false := by rw [beq_eq_false_iff_ne]; exact g1
                                have hN : ∀ i, q ≤ i → i < k → ¬ (byt s i = 88 ∧ dg n i ≠ 0) := by
                                  intro i h1 h2
                                  by_cases c : i = q
                                  · subst c; rintro ⟨h, _⟩; exact g1 (by rw [← hbq.out]; exact h)
                                  · exact HNO.out i (by omega) h2
                                replace hN := Lib.hid hN
                                replace hA3 := Lib.hid hA3
                                replace hB3 := Lib.hid hB3
                                clear g1
                                go_wp2
                                go_roundw
                                case rel => exact ⟨q, by omega, rfl, hN.out, hA3.out, hB3.out⟩
                                case measure => simp [intOf]
                          · as_aux_lemma =>
                              obtain rfl : m = 0 := by omega
                              subst hi
                              have hN : PrevR (byt s) n 0 16 := .inr ⟨rfl, rfl, dn_none HH.out.1 HH.out.2 hlt HF.out (by rw [HC.out]; exact C1.out) hg2.out (fun i hi => HNO.out i (by omega) hi)⟩
                              replace hN := Lib.hid hN
                              have HB := Lib.hid hA3.below
                              clear hA3 hB3
                              go_wp2
                              rw [Exit.noGoto_ret]
                              go_wp2
                              go_ret2
                              exact ⟨_, _, hN.out, rfl, HB.out⟩
                  case rest =>
                    as_aux_lemma =>
                      obtain ⟨j, o, hj, rfl, hO, hG⟩ := hcut
                      clear hA2 hB2 hBK
                      have HG := Lib.hid hG
                      clear hG
                      go_wp2
                      go_loopw [12] (fun i wx => ∃ (m : Nat) (o2 : Nat → Int), m ≤ 4 ∧ j ≤ m ∧ i = .int .i64 m ∧ Ar pb o2 w wx ∧ (∀ i, i < j → o2 i = o i) ∧ (∀ i, j ≤ i → i < m → o2 i = if byt s i = 88 then 57 else byt s i)) (fun i _ => 4 - (intOf i).toNat)
                      case atStart => exact ⟨j, o, hj, Nat.le_refl _, rfl, hO, fun i _ => rfl, fun i h1 h2 => by omega⟩
                      case round =>
                        obtain ⟨m, o2, hm, hjm, rfl, hO2, hlo, hfi⟩ := hrel
                        clear hO
                        have HLO := Lib.hid hlo
                        have HFI := Lib.hid hfi
                        clear hlo hfi
                        by_cases hm4 : m < 4
                        · as_aux_lemma =>
                            have hms : m < s.size := by have := H4.out; omega
                            have hms2 : (m : Int) < s.size := by omega
                            have hm18 : (m : Int) < 18 := by omega
                            have hbm := byt_get s m hms
                            have hcm := hO2.cell m (by omega)
                            have hfm := hO2.free m (by omega)
                            have hX1 := hO2.set m (by omega) ((s[m]'hms).toNat : Int)
                            have hc1 := hX1.cell m (by omega)
                            have hf1 := hX1.free m (by omega)
                            by_cases g1 : ((s[m]'hms).toNat : Int) = 88
                            · have u1 : (((s[m]'hms).toNat : Int) == 88) = true := by rw [g1]; rfl
                              have hX2 := (hX1.set m (by omega) 57).congr (o' := fun i => if i = m then (if byt s m = 88 then 57 else byt s m) else o2 i) (fun i _ => by
                                (try dsimp only)
                                by_cases c : i = m
                                · rw [if_pos c, if_pos c, if_pos (by rw [hbm]; exact g1)]
                                · rw [if_neg c, if_neg c, if_neg c])
                              replace hX2 := Lib.hid hX2
                              replace hO2 := Lib.hid hO2
                              clear hX1 hc1 hbm g1
                              go_wp2
                              go_roundw
                              case rel => exact ⟨m + 1, _, by omega, by omega, by go_num, hX2.out, fun i hi => by (try dsimp only); rw [if_neg (by omega)]; exact HLO.out i hi, fun i h1 h2 => by
                                (try dsimp only)
                                by_cases c : i = m
                                · subst c; rw [if_pos rfl]
                                · rw [if_neg c]; exact HFI.out i h1 (by omega)⟩
                              case measure => simp [intOf]; omega
                            · have u1 : (((s[m]'hms).toNat : Int) == 88) = false := by rw [beq_eq_false_iff_ne]; exact g1
                              have hX2 := hX1.congr (o' := fun i => if i = m then (if byt s m = 88 then 57 else byt s m) else o2 i) (fun i _ => by
                                (try dsimp only)
                                by_cases c : i = m
                                · rw [if_pos c, if_pos c, if_neg (by rw [hbm]; exact g1), hbm]
                                · rw [if_neg c, if_neg c])
                              replace hX2 := Lib.hid hX2
                              replace hO2 := Lib.hid hO2
                              clear hX1 hc1 hf1 hbm g1
                              go_wp2
                              go_roundw
                              case rel => exact ⟨m + 1, _, by omega, by omega, by go_num, hX2.out, fun i hi => by (try dsimp only); rw [if_neg (by omega)]; exact HLO.out i hi, fun i h1 h2 => by
                                (try dsimp only)
                                by_cases c : i = m
                                · subst c; rw [if_pos rfl]
                                · rw [if_neg c]; exact HFI.out i h1 (by omega)⟩
                              case measure => simp [intOf]; omega
                        · as_aux_lemma =>
                            obtain rfl : m = 4 := by omega
                            obtain ⟨hv, hb⟩ := HG.out o2 HLO.out HFI.out
                            have hV := Lib.hid (fun w => HV.out o2 w hb)
                            have hN : PrevR (byt s) n (val4 o2) 0 := .inl ⟨rfl, hv⟩
                            replace hN := Lib.hid hN
                            have hms2 : ((4 : Nat) : Int) < s.size → False := by have := H4.out; omega
                            have hR := hO2.range
                            have HB := Lib.hid hO2.below
                            have h4b := H4.out
                            clear hO2 HG HFI HLO hv hb
                            go_wp2_with (first
                              | (refine wpList_load_mid rfl 215 (.tmp 11) rfl pb 0 rfl (lst18 o2) _ hR Tryz.underlying215 rfl info_digits ?_)
                              | (go_at_call 193; with_reducible refine (hV.out _).mono ?_; rintro _ w9 ⟨rfl, hb9⟩))
                            go_ret2
                            exact ⟨_, _, hN.out, rfl, bt HB.out hb9⟩
        · as_aux_lemma =>
            obtain rfl : k = 4 := by omega
            have hN : PrevR (byt s) n n 0 := .inl ⟨rfl, mat_self HH.out.1 HH.out.2 HF.out, Int.le_refl _, fun f _ hf => hf⟩
            replace hN := Lib.hid hN
            have HB := Lib.hid hA2.below
            have h4b := H4.out
            clear hA2 hB2
            go_wp2
            go_quiet (fail)
            go_wp2
            go_ret2
            exact ⟨_, _, hN.out, rfl, below_drewN HB.out _⟩
end Bk
end Go.Proofs.YtipjmaimjchckaaGreatDoor

/-! THE WALKS of masks.Least, Greatest, Next, Prev; of fillings.masked. -/
set_option linter.unusedSimpArgs false
set_option linter.unusedVariables false
set_option maxRecDepth 100000
namespace Go.Proofs.YtipjmaimjchckaaGreatDoor
open Go.RowKit Go.Lib
namespace Bk
open Un (ba bt ri rb ret2_ii ret2_bi)

/-- A mask's places with one digit for all X. -/
def fl (b : Nat → Int) (x : Int) (i : Nat) : Int := if b i = 88 then x else b i
theorem fl_bd {b : Nat → Int} (hb : MOk b) {x : Int} (h0 : 48 ≤ x) (h1 : x ≤ 57) (i : Nat) (hi : i < 4) : 48 ≤ fl b x i ∧ fl b x i ≤ 57 := by
  have := hb i hi
  unfold fl; split <;> omega

theorem least_any (s : ByteArray) (w : World) (h4 : s.size = 4) (hx : allB isDigX s = true) :
    Calls Tryz.prog 177 #[.string s] w fun r w' => r = .returned (.tuple #[.int .i64 (val4 (fl (byt s) 48)), .int .i64 0]) ∧ Below w.heap.size w w' := by
  have hb := mok_of h4 hx
  have HC := Lib.hid (fun w => mCheck_any s w h4 hx)
  have HF := Lib.hid (fun w => filled_any s 48 (fl (byt s) 48) w h4 (fun i _ => rfl) (fun i hi => fl_bd hb (by omega) (by omega) i hi))
  clear h4 hx hb
  generalize val4 (fl (byt s) 48) = v at *
  go_enter Tryz.func177, Tryz.ntmps177
  go_wp2_with fail
  refine (HC.out _).mono ?_; rintro _ w1 ⟨rfl, hb1⟩
  go_wp2_with fail
  refine (HF.out _).mono ?_; rintro _ w2 ⟨rfl, hb2⟩
  go_wp2_with fail
  go_ret2
  exact ⟨rfl, bt hb1 hb2⟩
theorem greatest_any (s : ByteArray) (w : World) (h4 : s.size = 4) (hx : allB isDigX s = true) :
    Calls Tryz.prog 180 #[.string s] w fun r w' => r = .returned (.tuple #[.int .i64 (val4 (fl (byt s) 57)), .int .i64 0]) ∧ Below w.heap.size w w' := by
  have hb := mok_of h4 hx
  have HC := Lib.hid (fun w => mCheck_any s w h4 hx)
  have HF := Lib.hid (fun w => filled_any s 57 (fl (byt s) 57) w h4 (fun i _ => rfl) (fun i hi => fl_bd hb (by omega) (by omega) i hi))
  clear h4 hx hb
  generalize val4 (fl (byt s) 57) = v at *
  go_enter Tryz.func180, Tryz.ntmps180
  go_wp2_with fail
  refine (HC.out _).mono ?_; rintro _ w1 ⟨rfl, hb1⟩
  go_wp2_with fail
  refine (HF.out _).mono ?_; rintro _ w2 ⟨rfl, hb2⟩
  go_wp2_with fail
  go_ret2
  exact ⟨rfl, bt hb1 hb2⟩

theorem next_walk (s : ByteArray) (n : Int) (w : World) (h4 : s.size = 4) (hx : allB isDigX s = true) :
    Calls Tryz.prog 161 #[.string s, .int .i64 n] w (RetII (NextR (byt s) n) w) := by
  have hb := mok_of h4 hx
  have HC := Lib.hid (fun w => mCheck_any s w h4 hx)
  by_cases c : n < 0
  · have HL := Lib.hid (fun w => least_any s w h4 hx)
    have hN : NextR (byt s) n (val4 (fl (byt s) 48)) 0 := by
      obtain ⟨g1, g2⟩ := least_mat hb (o := fl (byt s) 48) (fun i _ => rfl)
      exact .inl ⟨rfl, g1, by have := g1.1; omega, fun f hf _ => g2 f hf⟩
    replace hN := Lib.hid hN
    clear h4 hx hb
    generalize val4 (fl (byt s) 48) = v at *
    go_enter Tryz.func161, Tryz.ntmps161
    go_wp2_with fail
    refine (HC.out _).mono ?_; rintro _ w1 ⟨rfl, hb1⟩
    go_wp2_with fail
    refine (HL.out _).mono ?_; rintro _ w2 ⟨rfl, hb2⟩
    go_wp2_with fail
    go_ret2
    exact ⟨_, _, hN.out, rfl, bt hb1 hb2⟩
  · by_cases c2 : n < 10000
    · have HW : Hid (∀ w, Calls Tryz.prog 178 #[.string s, .int .i64 n] w fun r w' => r = .returned (.bool true) ∧ w = w') := Lib.hid (fun w => by
        have := within_any s n w h4; rw [decide_eq_true (show 0 ≤ n by omega), decide_eq_true c2] at this; exact this)
      have HB := Lib.hid (fun w => beyondUp_any s n w h4 hx (by omega) (by omega))
      clear h4 hx hb
      go_enter Tryz.func161, Tryz.ntmps161
      go_wp2_with fail
      refine (HC.out _).mono ?_; rintro _ w1 ⟨rfl, hb1⟩
      go_wp2_with fail
      refine (HW.out _).mono ?_; rintro _ w2 ⟨rfl, rfl⟩
      go_wp2_with fail
      refine (HB.out _).mono ?_; rintro _ w2 ⟨v, x, hN, rfl, hb2⟩
      replace hN := Lib.hid hN
      go_wp2_with fail
      go_ret2
      exact ⟨_, _, hN.out, rfl, bt hb1 hb2⟩
    · have HW : Hid (∀ w, Calls Tryz.prog 178 #[.string s, .int .i64 n] w fun r w' => r = .returned (.bool false) ∧ w = w') := Lib.hid (fun w => by
        have := within_any s n w h4; rw [decide_eq_false c2, Bool.and_false] at this; exact this)
      have hN : NextR (byt s) n 0 16 := .inr ⟨rfl, rfl, fun f hf => by have := hf.2.1; omega⟩
      replace hN := Lib.hid hN
      clear h4 hx hb
      go_enter Tryz.func161, Tryz.ntmps161
      go_wp2_with fail
      refine (HC.out _).mono ?_; rintro _ w1 ⟨rfl, hb1⟩
      go_wp2_with fail
      refine (HW.out _).mono ?_; rintro _ w2 ⟨rfl, rfl⟩
      go_wp2_with fail
      go_ret2
      exact ⟨_, _, hN.out, rfl, hb1⟩

theorem prev_walk (s : ByteArray) (n : Int) (w : World) (h4 : s.size = 4) (hx : allB isDigX s = true) :
    Calls Tryz.prog 162 #[.string s, .int .i64 n] w (RetII (PrevR (byt s) n) w) := by
  have hb := mok_of h4 hx
  have HC := Lib.hid (fun w => mCheck_any s w h4 hx)
  by_cases c : n < 0
  · have hN : PrevR (byt s) n 0 16 := .inr ⟨rfl, rfl, fun f hf => by have := hf.1; omega⟩
    replace hN := Lib.hid hN
    clear h4 hx hb
    go_enter Tryz.func162, Tryz.ntmps162
    go_wp2_with fail
    refine (HC.out _).mono ?_; rintro _ w1 ⟨rfl, hb1⟩
    go_wp2_with fail
    go_ret2
    exact ⟨_, _, hN.out, rfl, hb1⟩
  · by_cases c2 : n < 10000
    · have HW : Hid (∀ w, Calls Tryz.prog 178 #[.string s, .int .i64 n] w fun r w' => r = .returned (.bool true) ∧ w = w') := Lib.hid (fun w => by
        have := within_any s n w h4; rw [decide_eq_true (show 0 ≤ n by omega), decide_eq_true c2] at this; exact this)
      have HB := Lib.hid (fun w => beyondDn_any s n w h4 hx (by omega) (by omega))
      clear h4 hx hb
      go_enter Tryz.func162, Tryz.ntmps162
      go_wp2_with fail
      refine (HC.out _).mono ?_; rintro _ w1 ⟨rfl, hb1⟩
      go_wp2_with fail
      refine (HW.out _).mono ?_; rintro _ w2 ⟨rfl, rfl⟩
      go_wp2_with fail
      refine (HB.out _).mono ?_; rintro _ w2 ⟨v, x, hN, rfl, hb2⟩
      replace hN := Lib.hid hN
      go_wp2_with fail
      go_ret2
      exact ⟨_, _, hN.out, rfl, bt hb1 hb2⟩
    · have HW : Hid (∀ w, Calls Tryz.prog 178 #[.string s, .int .i64 n] w fun r w' => r = .returned (.bool false) ∧ w = w') := Lib.hid (fun w => by
        have := within_any s n w h4; rw [decide_eq_false c2, Bool.and_false] at this; exact this)
      have HL := Lib.hid (fun w => greatest_any s w h4 hx)
      have hN : PrevR (byt s) n (val4 (fl (byt s) 57)) 0 := by
        obtain ⟨g1, g2⟩ := greatest_mat hb (o := fl (byt s) 57) (fun i _ => rfl)
        exact .inl ⟨rfl, g1, by have := g1.2.1; omega, fun f hf _ => g2 f hf⟩
      replace hN := Lib.hid hN
      clear h4 hx hb
      generalize val4 (fl (byt s) 57) = v at *
      go_enter Tryz.func162, Tryz.ntmps162
      go_wp2_with fail
      refine (HC.out _).mono ?_; rintro _ w1 ⟨rfl, hb1⟩
      go_wp2_with fail
      refine (HW.out _).mono ?_; rintro _ w2 ⟨rfl, rfl⟩
      go_wp2_with fail
      refine (HL.out _).mono ?_; rintro _ w2 ⟨rfl, hb2⟩
      go_wp2_with fail
      go_ret2
      exact ⟨_, _, hN.out, rfl, bt hb1 hb2⟩

/-- What fillings.masked finds, upwards from n, or downwards. -/
def UpR (b : Nat → Int) (n least v : Int) (ok : Bool) : Prop := 0 ≤ v ∧ v ≤ 9999 ∧ ((ok = true ∧ Mat b v ∧ n ≤ v ∧ least ≤ v ∧ ∀ f, Mat b f → n ≤ f → least ≤ f → v ≤ f) ∨ (ok = false ∧ ∀ f, Mat b f → least ≤ f → f < n))
def DnR (b : Nat → Int) (n least v : Int) (ok : Bool) : Prop := 0 ≤ v ∧ v ≤ 9999 ∧ ((ok = true ∧ Mat b v ∧ v ≤ n ∧ least ≤ v ∧ ∀ f, Mat b f → f ≤ n → f ≤ v) ∨ (ok = false ∧ ∀ f, Mat b f → f ≤ n → f < least))
def RetIB (P : Int → Bool → Prop) (w : World) (e : Ending) (w' : World) : Prop := ∃ v x, P v x ∧ e = .returned (.tuple #[.int .i64 v, .bool x]) ∧ Below w.heap.size w w'

theorem maskedUp_any (s : ByteArray) (n : Int) (w : World) (h4 : s.size = 4) (hx : allB isDigX s = true) (n0 : -9223372036854775808 ≤ n) (n1 : n < 9223372036854775808) :
    Calls Tryz.prog 138 #[.string s, .int .i64 n, .bool true, .int .i64 0] w (RetIB (UpR (byt s) n 0) w) := by
  have HN := Lib.hid (fun w => next_walk s (max n 0) w h4 hx)
  have HU : ∀ v x, NextR (byt s) (max n 0) v x → UpR (byt s) n 0 v (x == 0) := by
    intro v x h
    obtain ⟨b0, b1, _⟩ := nextR_bd h
    refine ⟨b0, b1, ?_⟩
    rcases h with ⟨rfl, h1, h2, h3⟩ | ⟨rfl, _, h3⟩
    · exact .inl ⟨rfl, h1, by omega, by omega, fun f hf g1 g2 => h3 f hf (by omega)⟩
    · exact .inr ⟨rfl, fun f hf hl => by have := h3 f hf; have := hf.1; omega⟩
  replace HU := Lib.hid HU
  go_enter Tryz.func138, Tryz.ntmps138
  go_wp2_with fail
  refine (HN.out _).mono ?_; rintro _ w1 ⟨v, x, hN, rfl, hb1⟩
  have hR := Lib.hid (HU.out _ _ hN)
  clear hN
  go_wp2_with fail
  go_ret2
  exact ⟨_, _, hR.out, rfl, hb1⟩

theorem maskedDn_any (s : ByteArray) (n : Int) (w : World) (h4 : s.size = 4) (hx : allB isDigX s = true) :
    Calls Tryz.prog 138 #[.string s, .int .i64 n, .bool false, .int .i64 1] w (RetIB (DnR (byt s) n 1) w) := by
  have HN := Lib.hid (fun w => prev_walk s n w h4 hx)
  have HU : ∀ v x, PrevR (byt s) n v x → DnR (byt s) n 1 v (x == 0 && decide (1 ≤ v)) := by
    intro v x h
    obtain ⟨b0, b1, _⟩ := prevR_bd h
    refine ⟨b0, b1, ?_⟩
    rcases h with ⟨rfl, h1, h2, h3⟩ | ⟨rfl, _, h3⟩
    · by_cases c : 1 ≤ v
      · exact .inl ⟨by rw [decide_eq_true c]; rfl, h1, h2, c, h3⟩
      · exact .inr ⟨by rw [decide_eq_false c]; rfl, fun f hf hl => by have := h3 f hf hl; omega⟩
    · exact .inr ⟨rfl, fun f hf hl => by have := h3 f hf; omega⟩
  replace HU := Lib.hid HU
  go_enter Tryz.func138, Tryz.ntmps138
  go_wp2_with fail
  refine (HN.out _).mono ?_; rintro _ w1 ⟨v, x, hN, rfl, hb1⟩
  have hR := HU.out _ _ hN
  have hx2 := (prevR_bd hN).2.2
  clear hN
  rcases hx2 with rfl | rfl
  · have hR2 := Lib.hid (show DnR (byt s) n 1 v (decide (1 ≤ v)) by rw [show ((0 : Int) == 0) = true from rfl, Bool.true_and] at hR; exact hR)
    clear hR
    go_wp2_with fail
    go_ret2
    exact ⟨_, _, hR2.out, rfl, hb1⟩
  · have hR2 := Lib.hid (show DnR (byt s) n 1 v false by rw [show ((16 : Int) == 0) = false from rfl, Bool.false_and] at hR; exact hR)
    clear hR
    go_wp2_with fail
    go_ret2
    exact ⟨_, _, hR2.out, rfl, hb1⟩
end Bk
end Go.Proofs.YtipjmaimjchckaaGreatDoor

