import Derived.Test.YtacggmlngekidaaGreatDoorP2
import Derived.Laws.IdiomStrings
import Derived.Laws.BytesArg
import Derived.Deep.DeepCutAuto
import Derived.Deep.CutBlock
import Derived.Deep.MidRow
import Derived.Deep.QuietTactic
import Derived.BigQuiet
import Derived.WalkMore
import Derived.Deep.LoopGhost
import Derived.Laws.EntriesVeiled
import Derived.Deep.RegionHeld3
import Derived.Lib.AtoiErrMem
import Derived.Defers
set_option linter.unusedSimpArgs false
set_option linter.unusedVariables false
set_option maxRecDepth 1000000
set_option maxHeartbeats 8000000
set_option linter.unusedSectionVars false
namespace Go.Proofs.YtacggmlngekidaaGreatDoor
section
open Go.RowKit Go.Lib
namespace Bk
open Un (ba bt ri rb aX bP)
theorem KE {s : ByteArray} (h : allB dP s = true) (i : Nat) (hi : i < s.size) : aZ s i = 88 \/ (48 <= aZ s i /\ aZ s i <= 57) := by
 have := (mG _ _).1 h i hi
 unfold dP at this
 simp at this
 omega
theorem yA {s : ByteArray} (h4 : s.size = 4) (h : allB dP s = true) : MOk (aZ s) := fun i hi => KE h i (by omega)
theorem rX (s : ByteArray) (w : World) (h4 : s.size = 4) (hx : allB dP s = true) :
 Calls Tryz.prog 196 #[.string s] w fun r w' => r = .returned (.int .i64 0) /\ Below w.heap.size w w' := by
 have HS := Lib.hid (fun (i : Nat) (hi : i < s.size) => KE hx i hi)
 have H4 := Lib.hid h4
 have l1 : ¬ (18 : Int) < s.size := by omega
 have l2 : ¬ s.size = 0 := by omega
 have l3 : 0 < s.size := by omega
 have l4 := yK l2
 clear hx h4
 go_enter Tryz.func196, Tryz.ntmps196
 go_wp2
 go_loopg [] s.size (fun gf wx => ∃ pos : Nat, wx.heap[w.heap.size]? = some (.stringIter s pos) /\ Below w.heap.size w wx /\ s.size <= pos + gf)
 case atStart => exact ⟨0, World.iter_heap w s 0, (Below.refl _ w).alloc (Nat.le_refl _) _, by omega⟩
 case round =>
  obtain ⟨pos, hit, hbw, hfu⟩ := hrel
  by_cases hps : pos < s.size
  . obtain ⟨g', rfl⟩ : ∃ g', gk = g' + 1 := ⟨gk - 1, by omega⟩
    have hbd := HS.out pos hps
    rw [bY s pos hps] at hbd
    have hnx : ∀ ty, (Instr.next (.pointer (some ⟨w.heap.size, 0, none⟩)) true ty).run Tryz.prog wr = _ := fun ty => Lib.run_next_any_at wr w.heap.size s pos ty hit hps
    have hde := decode_ascii s pos hps (by omega)
    rw [hde] at hnx
    generalize (s[pos]'hps).toNat = R at hnx hbd hde
    have hit2 := Lib.iterAt_heap wr w.heap.size s pos (pos + 1) hit
    have hbw2 := Lib.below_iterAt hbw (k := w.heap.size) (Nat.le_refl _) s (pos + 1)
    clear hde
    rcases hbd with h | ⟨h1, h2⟩
    . have h : R = 88 := by omega
      subst h
      go_wp2
      go_roundg g'
      case measure => omega
      case rel => exact ⟨pos + 1, hit2, hbw2, by omega⟩
    . have e1 : ((R : Int) == 88) = false := by rw [beq_eq_false_iff_ne]; omega
      have e2 : ((R : Int) != 88) = true := by rw [bne_iff_ne]; omega
      have e3 : ¬ (R : Int) < 48 := by omega
      have e4 : ¬ (57 : Int) < R := by omega
      go_wp2
      go_roundg g'
      case measure => omega
      case rel => exact ⟨pos + 1, hit2, hbw2, by omega⟩
  . have hnx : ∀ ty, (Instr.next (.pointer (some ⟨w.heap.size, 0, none⟩)) true ty).run Tryz.prog wr = _ := fun ty => Lib.run_next_end_at wr w.heap.size s pos ty hit hps
    go_wp2
    go_ret
    exact ⟨rfl, hbw⟩
theorem aDe (n : Nat) (w : World) (h : n <= 18) : Calls Tryz.prog 219 #[.int .i64 n] w fun r w' => r = .returned (.int .i64 (p10 n)) /\ w = w' := by
 have HT := Lib.hid (fun w => NV n w h)
 generalize p10 n = p at *
 go_enter Tryz.func219, Tryz.ntmps219
 go_wp2_with (go_at_call 194; with_reducible refine (HT.out _).mono ?_; rintro _ w' ⟨rfl, rfl⟩)
 go_ret
 exact ⟨rfl, rfl⟩
theorem rM (s : ByteArray) (n : Int) (w : World) (h4 : s.size = 4) :
 Calls Tryz.prog 198 #[.string s, .int .i64 n] w fun r w' => r = .returned (.bool (decide (0 <= n) && decide (n < 10000))) /\ w = w' := by
 have HP : Hid (∀ w : World, Calls Tryz.prog 219 #[.int .i64 s.size] w fun r w' => r = .returned (.int .i64 10000) /\ w = w') := Lib.hid (by
  intro w; have := aDe 4 w (by omega); rw [h4]; exact this)
 clear h4
 by_cases c : 0 <= n <;> by_cases c2 : n < 10000
 all_goals
  go_enter Tryz.func198, Tryz.ntmps198
  go_wp2_with (go_at_call 219; with_reducible refine (HP.out _).mono ?_; rintro _ w' ⟨rfl, rfl⟩)
  go_ret
  exact ⟨rb (by simp [c, c2]), rfl⟩
def pv (o : Nat -> Int) : Nat -> Int
 | 0 => 0
 | k + 1 => 10 * pv o k + (o k - 48)
theorem pv4 (o : Nat -> Int) : pv o 4 = dD o := by unfold dD; simp only [pv]; omega
theorem aN9 {o : Nat -> Int} (h : ∀ i, i < 4 -> 48 <= o i /\ o i <= 57) (k : Nat) (hk : k <= 4) : 0 <= pv o k /\ pv o k <= 9999 := by
 have a0 := h 0 (by omega); have a1 := h 1 (by omega); have a2 := h 2 (by omega); have a3 := h 3 (by omega)
 obtain rfl | rfl | rfl | rfl | rfl : k = 0 \/ k = 1 \/ k = 2 \/ k = 3 \/ k = 4 := by omega
 all_goals simp only [pv]; omega
theorem YH (w : World) (s : ByteArray) (cap : Nat) (T : TypeId) (m : Nat × Nat) (i : Nat) (h : i < s.size) : (w.drew.alloc (.cells (bytesRow s cap) T m)).cell? ⟨w.heap.size, i, none⟩ = some (.int .u8 ((s[i]'h).toNat : Int)) := by
 have := World.cell?_alloc_mark w.drew (bytesRow s cap) T m i
 rw [show w.drew.heap.size = w.heap.size from rfl] at this
 rw [this, bytesRow_at s cap i h]
 rfl
theorem KG (w : World) (s : ByteArray) : ∃ (cap : Nat) (W1 : World), (convert 9 207 (.string s)).run Tryz.prog w = .ok (.slice (some ⟨w.heap.size, 0, none⟩) s.size cap) W1 /\ (∀ i (h : i < s.size), W1.cell? ⟨w.heap.size, i, none⟩ = some (.int .u8 ((s[i]'h).toNat : Int))) /\ Below w.heap.size w W1 :=
 ⟨_, _, run_bytes_of_string (P := Tryz.prog) w 9 207 5 s Tryz.underlying9 Tryz.underlying207 Tryz.underlying5, fun i h => YH w s _ _ _ i h, ba (Below.refl _ _).drew _⟩
theorem yI (s : ByteArray) (x : Int) (o : Nat -> Int) (w : World) (h4 : s.size = 4) (ho : ∀ i, i < 4 -> o i = if aZ s i = 88 then x else aZ s i) (hd : ∀ i, i < 4 -> 48 <= o i /\ o i <= 57) :
 Calls Tryz.prog 218 #[.string s, .int .u8 x] w fun r w' => r = .returned (.int .i64 (dD o)) /\ Below w.heap.size w w' := by
 obtain ⟨cap, W1, hcv, hC, hB⟩ := KG w s
 have HC := Lib.hid hC
 clear hC
 have HO := Lib.hid ho
 have HD := Lib.hid hd
 have HP := Lib.hid (fun k hk => aN9 hd k hk)
 clear ho hd
 have H4 := Lib.hid h4
 have l4 : (s.size : Int) = 4 := by omega
 replace l4 := Lib.hid l4
 clear h4
 go_enter Tryz.func218, Tryz.ntmps218
 go_wp2
 clear hcv
 go_loop [5, 11] (fun n i => ∃ k : Nat, k <= s.size /\ i = .int .i64 k /\ n = .int .i64 (pv o k)) (fun _ i => s.size - (intOf i).toNat)
 case atStart => exact ⟨0, Nat.zero_le _, rfl, rfl⟩
 case round =>
  obtain ⟨k, hk, rfl, rfl⟩ := hrel
  have p0 := HP.out k (by have := H4.out; omega)
  by_cases hlt : k < s.size
  . have k4 : k < 4 := by have := H4.out; omega
    have hc := HC.out k hlt
    have ho := HO.out k k4
    have hd := HD.out k k4
    rw [bY s k hlt] at ho
    have p1 := HP.out (k + 1) (by omega)
    have hs : pv o (k + 1) = 10 * pv o k + (o k - 48) := rfl
    by_cases c : ((s[k]'hlt).toNat : Int) = 88
    . rw [if_pos c] at ho
      have HS := Lib.hid hs
      have HO2 := Lib.hid ho
      rw [hs, ho] at p1
      rw [ho] at hd
      have cb : (((s[k]'hlt).toNat : Int) == 88) = true := by rw [c]; rfl
      clear hs ho c
      obtain ⟨d0, d1⟩ := hd
      go_wp2
      go_round
      case rel => exact ⟨k + 1, by omega, by go_num, by rw [HS.out, HO2.out]⟩
      case measure => simp [intOf]; omega
    . rw [if_neg c] at ho
      have HS := Lib.hid hs
      have HO2 := Lib.hid ho
      rw [hs, ho] at p1
      rw [ho] at hd
      have cb : (((s[k]'hlt).toNat : Int) == 88) = false := by rw [beq_eq_false_iff_ne]; exact c
      clear hs ho c
      obtain ⟨d0, d1⟩ := hd
      go_wp2
      go_round
      case rel => exact ⟨k + 1, by omega, by go_num, by rw [HS.out, HO2.out]⟩
      case measure => simp [intOf]; omega
  . have e : k = 4 := by have := H4.out; omega
    subst e
    go_wp2
    go_ret
    exact ⟨ri (pv4 o), hB⟩
def OZ (o : Nat -> Int) : Value := .agg #[.int .u8 (o 0), .int .u8 (o 1), .int .u8 (o 2), .int .u8 (o 3), .int .u8 (o 4), .int .u8 (o 5), .int .u8 (o 6), .int .u8 (o 7), .int .u8 (o 8), .int .u8 (o 9), .int .u8 (o 10), .int .u8 (o 11), .int .u8 (o 12), .int .u8 (o 13), .int .u8 (o 14), .int .u8 (o 15), .int .u8 (o 16), .int .u8 (o 17)]
def TB (o : Nat -> Int) : Array Value := #[.int .u8 (o 0), .int .u8 (o 1), .int .u8 (o 2), .int .u8 (o 3), .int .u8 (o 4), .int .u8 (o 5), .int .u8 (o 6), .int .u8 (o 7), .int .u8 (o 8), .int .u8 (o 9), .int .u8 (o 10), .int .u8 (o 11), .int .u8 (o 12), .int .u8 (o 13), .int .u8 (o 14), .int .u8 (o 15), .int .u8 (o 16), .int .u8 (o 17)]
def Dn (n : Int) (i : Nat) : Int := if i < 4 then 48 + dg n i else 0
structure Ar (p : Nat) (o : Nat -> Int) (w W : World) : Prop where
 cell : ∀ i, i < 18 -> W.cell? ⟨p, i, none⟩ = some (.int .u8 (o i))
 free : ∀ i, i < 18 -> W.frozen? ⟨p, i, none⟩ = false
 new : w.heap.size <= p
 below : Below w.heap.size w W
theorem Ar.later {p : Nat} {o : Nat -> Int} {w W W2 : World} (h : Ar p o w W) (hb : Below W.heap.size W W2) : Ar p o w W2 :=
 have hl := World.block_lt_of_cell? _ _ (h.cell 0 (by omega))
 ⟨fun i hi => (hb.cell (p := ⟨p, i, none⟩) hl).trans (h.cell i hi), fun i hi => (hb.frozen (p := ⟨p, i, none⟩) hl).trans (h.free i hi), h.new, bt h.below hb⟩
theorem Ar.set {p : Nat} {o : Nat -> Int} {w W : World} (h : Ar p o w W) (k : Nat) (hk : k < 18) (v : Int) : Ar p (fun i => if i = k then v else o i) w (W.setCell ⟨p, k, none⟩ (.int .u8 v)) := by
 refine ⟨fun i hi => ?_, fun i hi => by rw [World.frozen?_setCell]; exact h.free i hi, h.new, h.below.setCell h.new _⟩
 by_cases c : i = k
 . subst c
   rw [if_pos rfl]
   exact World.cell?_setCell_same _ _ _ (h.cell i hi)
 . rw [if_neg c, World.cell?_setCell_other _ _ _ _ (by intro e; injection e with e1 e2; exact c e2.symm)]
   exact h.cell i hi
theorem Ar.other {p q : Nat} {o : Nat -> Int} {w W : World} (h : Ar p o w W) (hne : q ≠ p) (hq : w.heap.size <= q) (k : Nat) (v : Value) : Ar p o w (W.setCell ⟨q, k, none⟩ v) := by
 refine ⟨fun i hi => ?_, fun i hi => by rw [World.frozen?_setCell]; exact h.free i hi, h.new, h.below.setCell hq _⟩
 rw [World.cell?_setCell_other _ _ _ _ (by intro e; injection e with e1 e2; exact hne e1)]
 exact h.cell i hi
theorem Ar.fresh (o : Nat -> Int) (w : World) (t : TypeId) : Ar w.heap.size o w (w.alloc (.cells (TB o) t)) := by
 refine ⟨fun i hi => ?_, fun i hi => by simp, Nat.le_refl _, ba (Below.refl _ _) _⟩
 unfold TB
 obtain rfl | rfl | rfl | rfl | rfl | rfl | rfl | rfl | rfl | rfl | rfl | rfl | rfl | rfl | rfl | rfl | rfl | rfl : i = 0 \/ i = 1 \/ i = 2 \/ i = 3 \/ i = 4 \/ i = 5 \/ i = 6 \/ i = 7 \/ i = 8 \/ i = 9 \/ i = 10 \/ i = 11 \/ i = 12 \/ i = 13 \/ i = 14 \/ i = 15 \/ i = 16 \/ i = 17 := by omega
 all_goals simp [go_sem]
end Bk
end
section
open Go.RowKit Go.Lib
namespace Bk
open Un (ba bt ri rb aX bP)
theorem byte_of {x : Int} (h0 : 0 <= x) (h1 : x < 256) : ((UInt8.ofNat x.toNat).toNat : Int) = x := by
 rw [UInt8.toNat_ofNat']; omega
theorem NC (s : ByteArray) (o : Nat -> Int) (w : World) (h4 : s.size = 4) (hd : ∀ i, i < 4 -> 48 <= o i /\ o i <= 57) :
 Calls Tryz.prog 221 #[.string s, OZ o] w fun r w' => r = .returned (.int .i64 (dD o)) /\ Below w.heap.size w w' := by
 have hA := Ar.fresh o w 255
 obtain ⟨S, hS⟩ : ∃ S, S = strOfNums [o 0, o 1, o 2, o 3] := ⟨_, rfl⟩
 have h5 : S.size = 4 := by rw [hS, strOfNums_size]; rfl
 have hb : ∀ i, i < 4 -> aZ S i = o i := by
  intro i hi
  have := hd i hi
  unfold aZ
  rw [hS, strOfNums_data]
  obtain rfl | rfl | rfl | rfl : i = 0 \/ i = 1 \/ i = 2 \/ i = 3 := by omega
  all_goals exact byte_of (by omega) (by omega)
 have HF := Lib.hid (fun w => yI S 0 o w h5 (fun i hi => by rw [hb i hi, if_neg (by have := hd i hi; omega)]) hd)
 have HS := Lib.hid hS
 clear hb h5 hS
 unfold OZ
 go_enter Tryz.func221, Tryz.ntmps221
 go_upto_region 1 with (fail)
 unfold TB at hA
 generalize w.alloc (.cells #[.int .u8 (o 0), .int .u8 (o 1), .int .u8 (o 2), .int .u8 (o 3), .int .u8 (o 4), .int .u8 (o 5), .int .u8 (o 6), .int .u8 (o 7), .int .u8 (o 8), .int .u8 (o 9), .int .u8 (o 10), .int .u8 (o 11), .int .u8 (o 12), .int .u8 (o 13), .int .u8 (o 14), .int .u8 (o 15), .int .u8 (o 16), .int .u8 (o 17)] 255) = W0 at hA ⊢
 have hcv := run_convert_bytes_arg (P := Tryz.prog) W0 207 5 Tryz.underlying207 Tryz.underlying5 w.heap.size 0 4 18 [o 0, o 1, o 2, o 3] rfl (by
  intro i hi
  rw [Nat.zero_add, hA.cell i (by omega)]
  obtain rfl | rfl | rfl | rfl : i = 0 \/ i = 1 \/ i = 2 \/ i = 3 := by omega
  all_goals rfl) 9 Tryz.underlying9
 rw [<- HS.out] at hcv
 have hBl := hA.below
 clear hA hd
 go_wp2_with (go_at_call 218; with_reducible refine (HF.out _).mono ?_; rintro _ w' ⟨rfl, hb⟩)
 go_ret
 exact ⟨rfl, bt hBl hb⟩
theorem Ar.congr {p : Nat} {o o' : Nat -> Int} {w W : World} (h : Ar p o w W) (e : ∀ i, i < 18 -> o i = o' i) : Ar p o' w W :=
 ⟨fun i hi => by rw [<- e i hi]; exact h.cell i hi, h.free, h.new, h.below⟩
theorem PV {w : World} {a : Addr} {v : Value} (h : w.cell? a = some v) : w.setCell a v = w := by
 have e : (w.setCell a v).heap = w.heap := by
  unfold World.setCell
  apply Array.ext
  . simp
  . intro i h1 h2
    simp only [Array.getElem_modify]
    split
    . rename_i hi
      subst hi
      unfold World.cell? at h
      rw [Array.getElem?_eq_getElem h2] at h
      cases hb : w.heap[a.block] with
      | cells c e f =>
       rw [hb] at h
       simp only at h
       show Obj.cells (if a.spot.isSome = true then c else c.setIfInBounds a.off v) e f = Obj.cells c e f
       by_cases hs : a.spot.isSome = true
       . rw [if_pos hs]
       . rw [if_neg hs] at h ⊢
         congr 1
         apply Array.ext
         . simp
         . intro j g1 g2
           rw [Array.getElem_setIfInBounds]
           split
           . rename_i hj
             subst hj
             rw [Array.getElem?_eq_getElem g2] at h
             injection h with h
             exact h.symm
           . rfl
      | _ => rfl
    . rfl
 show ({ w with heap := (w.setCell a v).heap } : World) = w
 rw [e]
theorem yZ {fn : Func} {p : Tmp} {ty : TypeId} (h : fn.results = #[.cell p ty]) (tmps : Array Value) {P : Program} {w : World} {a : Addr} {v : Value}
 (hp : tmps.getD p undef = .pointer (some a)) (hl : (loadVar ty a).run P w = .ok v w) : (results fn tmps).run P w = .ok v w := by
 have hp' : tmps[p]?.getD undef = .pointer (some a) := by simpa using hp
 simp [results, h, hp', asAddr, hl]
def fK (o : Nat -> Int) : List Value := (List.range 18).map fun i => .int .u8 (o i)
theorem zL (o : Nat -> Int) : (Value.agg (fK o).toArray) = OZ o := rfl
theorem fA : (Tryz.prog.info? 255).map (·.size) = some 18 := by kernel_rfl
theorem aDN (o : Nat -> Int) (j : Nat) (v : Value) (h : (fK o)[j]? = some v) : j < 18 /\ v = .int .u8 (o j) := by
 unfold fK at h
 rw [List.getElem?_map, Option.map_eq_some_iff] at h
 obtain ⟨a, ha, rfl⟩ := h
 obtain ⟨hj, rfl⟩ := List.getElem?_eq_some_iff.1 ha
 simp at hj ⊢
 exact hj
theorem Ar.range {p : Nat} {o : Nat -> Int} {w W : World} (h : Ar p o w W) : W.rangeAt p 0 (fK o) := by
 intro j v hv
 obtain ⟨hj, rfl⟩ := aDN o j v hv
 rw [Nat.zero_add]
 exact h.cell j hj
theorem Ar.aOZ {p : Nat} {o : Nat -> Int} {w W : World} (h : Ar p o w W) : (loadVar 255 ⟨p, 0, none⟩).run Tryz.prog W = .ok (OZ o) W :=
 run_loadVar_mid W p 0 _ (fK o) _ h.range Tryz.underlying255 rfl fA
theorem wW {p : Nat} {W : World} : ∀ (vs : List Value) (k : Nat), W.rangeAt p k vs -> W.setCells p k vs = W
 | [], _, _ => rfl
 | v :: r, k, h => by
  unfold World.setCells
  rw [PV (show W.cell? ⟨p, k, none⟩ = some v from h 0 v rfl)]
  exact wW r (k + 1) (fun j u hj => by rw [show k + 1 + j = k + (j + 1) by omega]; exact h (j + 1) u hj)
theorem Ar.there {p : Nat} {o : Nat -> Int} {w W : World} (h : Ar p o w W) : W.there p 0 (fK o).toArray.size := fun j hj => by
 have hj : j < 18 := hj
 rw [Nat.zero_add, h.cell j hj]; exact ⟨rfl, h.free j hj⟩
theorem V8 (o : Nat -> Int) : (fK o).toArray.all (·.oneCell') = true := all_oneCell_toArray (fun v hv => by
 unfold fK at hv
 rw [List.mem_map] at hv
 obtain ⟨i, _, rfl⟩ := hv
 rfl)
theorem Ar.self {p : Nat} {o : Nat -> Int} {w W : World} (h : Ar p o w W) : W.setCells p 0 (fK o).toArray.toList = W := wW (fK o) 0 h.range
def nd (n : Int) (j : Nat) : Int := if j = 0 then n else if j = 1 then n / 10 else if j = 2 then n / 100 else if j = 3 then n / 1000 else n / 10000
def Sp (n : Int) (j i : Nat) : Int := if 4 <= i + j /\ i < 4 then 48 + dg n i else 0
theorem aKo (n : Int) (i : Nat) : Sp n 4 i = Dn n i := by
 unfold Sp Dn
 by_cases h : i < 4
 . rw [if_pos ⟨by omega, h⟩, if_pos h]
 . rw [if_neg (by omega), if_neg h]
theorem JG (n : Int) (h0 : 0 <= n) (h1 : n <= 9999) (j : Nat) (hj : j < 4) : 0 <= nd n j /\ nd n j <= 9999 /\ nd n (j + 1) = nd n j / 10 /\ dg n (3 - j) = nd n j % 10 := by
 unfold nd dg
 obtain rfl | rfl | rfl | rfl : j = 0 \/ j = 1 \/ j = 2 \/ j = 3 := by omega
 all_goals simp
 all_goals omega
theorem Ar.zero (w : World) (t : TypeId) : Ar w.heap.size (fun _ => 0) w (w.alloc (.cells #[.int .u8 0, .int .u8 0, .int .u8 0, .int .u8 0, .int .u8 0, .int .u8 0, .int .u8 0, .int .u8 0, .int .u8 0, .int .u8 0, .int .u8 0, .int .u8 0, .int .u8 0, .int .u8 0, .int .u8 0, .int .u8 0, .int .u8 0, .int .u8 0] t)) := Ar.fresh (fun _ => 0) w t
theorem ND (s : ByteArray) (n : Int) (w : World) (h4 : s.size = 4) (h0 : 0 <= n) (h1 : n <= 9999) :
 Calls Tryz.prog 220 #[.string s, .int .i64 n] w fun r w' => r = .returned (OZ (Dn n)) /\ Below w.heap.size w w' := by
 have hA := Ar.zero w 255
 have HN := Lib.hid (fun j hj => JG n h0 h1 j hj)
 have hSn : ∀ j, j < 4 -> ∀ i, i < 18 -> (if i = 3 - j then 48 + dg n (3 - j) else Sp n j i) = Sp n (j + 1) i := by
  intro j hj i hi
  unfold Sp
  by_cases c : i = 3 - j
  . subst c
    rw [if_pos rfl, if_pos (by omega)]
  . rw [if_neg c]
    by_cases d : 4 <= i + j /\ i < 4
    . rw [if_pos d, if_pos (by omega)]
    . rw [if_neg d, if_neg (by omega)]
 have HS := Lib.hid hSn
 clear hSn
 obtain ⟨o, ho⟩ : ∃ o, o = Dn n := ⟨_, rfl⟩
 rw [<- ho]
 have HO := Lib.hid (fun i => (by rw [ho]; exact aKo n i : Sp n 4 i = o i))
 clear ho
 go_enter Tryz.func220, Tryz.ntmps220
 go_upto_block 0 with (fail)
 generalize w.alloc (.cells #[.int .u8 0, .int .u8 0, .int .u8 0, .int .u8 0, .int .u8 0, .int .u8 0, .int .u8 0, .int .u8 0, .int .u8 0, .int .u8 0, .int .u8 0, .int .u8 0, .int .u8 0, .int .u8 0, .int .u8 0, .int .u8 0, .int .u8 0, .int .u8 0] 255) = W0 at hA ⊢
 replace hA := Lib.hid (hA.congr (o' := Sp n 0) (fun i hi => by unfold Sp; rw [if_neg (by omega)]))
 clear h4
 go_wp2
 go_loopw [1, 5] (fun t i wx => ∃ k : Nat, k <= 4 /\ i = .int .i64 ((k : Int) - 1) /\ t = .int .i64 (nd n (4 - k)) /\ Ar w.heap.size (Sp n (4 - k)) w wx) (fun _ i _ => ((intOf i) + 1).toNat)
 case atStart => exact ⟨4, Nat.le_refl _, rfl, rfl, hA.out⟩
 case round =>
  obtain ⟨k, hk, hi, rfl, hA⟩ := hrel
  by_cases hlt : 0 < k
  . obtain ⟨m, rfl⟩ : ∃ m, k = m + 1 := ⟨k - 1, by omega⟩
    rw [show (((m + 1 : Nat) : Int)) - 1 = (m : Int) by omega] at hi
    subst hi
    have hj : 4 - (m + 1) < 4 := by omega
    obtain ⟨d0, d1, d2, d3⟩ := HN.out _ hj
    have hs := HS.out _ hj
    rw [show 4 - (m + 1) + 1 = 4 - m by omega] at d2 hs
    rw [show 3 - (4 - (m + 1)) = m by omega] at d3 hs
    have hc := hA.cell m (by omega)
    have hf := hA.free m (by omega)
    have hm : m < 18 := by omega
    have hm4 : (m : Int) < 4 := by omega
    generalize nd n (4 - (m + 1)) = q at *
    have hX := Lib.hid ((hA.set m hm (48 + q % 10)).congr (o' := Sp n (4 - m)) (fun i hi => by rw [<- d3]; exact hs i hi))
    have D2 := Lib.hid d2
    have e0 : 0 <= q % 10 := by omega
    have e1 : q % 10 <= 9 := by omega
    clear hA hs d2 d3
    go_wp2
    go_roundw
    case rel => exact ⟨m, by omega, rfl, by rw [D2.out], hX.out⟩
    case measure => simp [intOf]
  . as_aux_lemma =>
     obtain rfl : k = 0 := by omega
     subst hi
     have hA2 := hA.congr (o' := o) (fun i _ => HO.out i)
     clear hA
     have hR := hA2.range
     have hT := hA2.there
     have hS := Lib.hid hA2.self
     have hlv := Lib.hid hA2.aOZ
     have HB := Lib.hid hA2.below
     clear hA2
     go_wp2_with (first
      | (refine wpList_load_mid rfl 255 (.tmp 4) rfl w.heap.size 0 rfl (fK o) _ hR Tryz.underlying255 rfl fA ?_)
      | (refine wpList_store_mid rfl 255 (.tmp 4) (.tmp 21) rfl w.heap.size 0 (fK o).toArray rfl rfl hT fA (V8 o) ?_; rw [hS.out]))
     exact bodyPost_ret (v := OZ o) (yZ Tryz.results220 _ rfl hlv.out) rfl ⟨rfl, HB.out⟩
end Bk
end
section
open Go.RowKit Go.Lib
namespace Bk
open Un (ba bt ri rb aX bP)
theorem Ar.fresh0 {w W : World} (hb : Below w.heap.size w W) (t : TypeId) : Ar W.heap.size (fun _ => 0) w (W.alloc (.cells #[.int .u8 0, .int .u8 0, .int .u8 0, .int .u8 0, .int .u8 0, .int .u8 0, .int .u8 0, .int .u8 0, .int .u8 0, .int .u8 0, .int .u8 0, .int .u8 0, .int .u8 0, .int .u8 0, .int .u8 0, .int .u8 0, .int .u8 0, .int .u8 0] t)) := by
 have h := Ar.zero W t
 exact ⟨h.cell, h.free, hb.size, ba hb _⟩
theorem Ar.cO {p : Nat} {o : Nat -> Int} {w W : World} (h : Ar p o w W) (o' : Nat -> Int) : Ar p o' w (W.setCells p 0 (fK o').toArray.toList) := by
 have key : ∀ (vs : List Value) (k : Nat) (W : World), (∀ i, k <= i -> i < k + vs.length -> (W.cell? ⟨p, i, none⟩).isSome = true) -> (∀ j v, vs[j]? = some v -> (W.setCells p k vs).cell? ⟨p, k + j, none⟩ = some v) := by
  intro vs
  induction vs with
  | nil => intro k W _ j v hv; simp at hv
  | cons u r ih =>
   intro k W hs j v hv
   unfold World.setCells
   cases j with
   | zero =>
    simp at hv; subst hv
    rw [World.cell?_setCells_out p r (k + 1) _ ⟨p, k + 0, none⟩ (fun _ _ => .inl (by show k + 0 < k + 1; omega))]
    obtain ⟨x, hx⟩ := Option.isSome_iff_exists.1 (hs k (Nat.le_refl _) (by simp))
    exact World.cell?_setCell_same _ _ _ hx
   | succ j =>
    rw [show k + (j + 1) = k + 1 + j by omega]
    refine ih (k + 1) _ (fun i h1 h2 => ?_) j v (by simpa using hv)
    rw [World.cell?_setCell_other _ _ _ _ (by intro e; injection e with _ e2; omega)]
    exact hs i (by omega) (by simp; omega)
 have fz : ∀ (vs : List Value) (k : Nat) (W : World) (i : Nat), (W.setCells p k vs).frozen? ⟨p, i, none⟩ = W.frozen? ⟨p, i, none⟩ := by
  intro vs
  induction vs with
  | nil => intro k W i; rfl
  | cons u r ih => intro k W i; unfold World.setCells; rw [ih, World.frozen?_setCell]
 have bl : ∀ (vs : List Value) (k : Nat) (W : World), Below w.heap.size w W -> Below w.heap.size w (W.setCells p k vs) := by
  intro vs
  induction vs with
  | nil => intro k W hb; exact hb
  | cons u r ih => intro k W hb; unfold World.setCells; exact ih _ _ (hb.setCell h.new _)
 have hl : (fK o').toArray.toList = fK o' := rfl
 rw [hl]
 refine ⟨fun i hi => ?_, fun i hi => by rw [fz]; exact h.free i hi, h.new, bl _ _ _ h.below⟩
 have := key (fK o') 0 W (fun j _ hj => by
  have hj : j < 18 := by have : (fK o').length = 18 := rfl; omega
  rw [h.cell j hj]; rfl) i (.int .u8 (o' i)) (by
   unfold fK
   rw [List.getElem?_map, List.getElem?_range hi]; rfl)
 rw [Nat.zero_add] at this
 exact this
theorem Ar.others {p q : Nat} {o : Nat -> Int} {w W : World} (h : Ar p o w W) (hne : q ≠ p) (hq : w.heap.size <= q) : ∀ (vs : List Value) (k : Nat), Ar p o w (W.setCells q k vs) := by
 intro vs
 induction vs generalizing W with
 | nil => intro k; exact h
 | cons u r ih => intro k; unfold World.setCells; exact ih (h.other hne hq k u) (k + 1)
theorem Ar.alloc {p : Nat} {o : Nat -> Int} {w W : World} (h : Ar p o w W) (ob : Obj) : Ar p o w (W.alloc ob) := h.later (ba (Below.refl _ _) _)
def aCw (P : Int -> Int -> Prop) (w : World) (e : Ending) (w' : World) : Prop := ∃ v x, P v x /\ e = .returned (.tuple #[.int .i64 v, .int .i64 x]) /\ Below w.heap.size w w'
def aCy (b : Nat -> Int) (n : Int) (j : Nat) (o : Nat -> Int) : Prop := ∀ o' : Nat -> Int, (∀ i, i < j -> o' i = o i) -> (∀ i, j <= i -> i < 4 -> o' i = if b i = 88 then 48 else b i) ->
 (oC b (dD o') /\ n <= dD o' /\ ∀ f, oC b f -> n <= f -> dD o' <= f) /\ (∀ i, i < 4 -> 48 <= o' i /\ o' i <= 57)
def aCz (b : Nat -> Int) (n : Int) (j : Nat) (o : Nat -> Int) : Prop := ∀ o' : Nat -> Int, (∀ i, i < j -> o' i = o i) -> (∀ i, j <= i -> i < 4 -> o' i = if b i = 88 then 57 else b i) ->
 (oC b (dD o') /\ dD o' <= n /\ ∀ f, oC b f -> f <= n -> f <= dD o') /\ (∀ i, i < 4 -> 48 <= o' i /\ o' i <= 57)
theorem EG {n : Int} (h0 : 0 <= n) (h1 : n <= 9999) (i : Nat) : 0 <= dg n i /\ dg n i <= 9 := by unfold dg; (repeat' split) <;> omega
theorem FP {b : Nat -> Int} (hb : MOk b) {x y : Int} {i : Nat} (hi : i < 4) (hx : 48 <= x /\ x <= 57) (h : y = if b i = 88 then x else b i) : 48 <= y /\ y <= 57 := by
 have := hb i hi
 rw [h]; split <;> omega
theorem aAL {b : Nat -> Int} {n : Int} {k : Nat} (hb : MOk b) (h0 : 0 <= n) (h1 : n <= 9999) (hk : k < 4) (hf : ∀ i, i < k -> dB b n i) (hx : b k ≠ 88) (hg : 48 + dg n k < b k) : aCy b n k (Dn n) := by
 intro o ho hr
 have ho' : ∀ i, i < k -> o i = 48 + dg n i := fun i hi => by rw [ho i hi]; unfold Dn; rw [if_pos (by omega)]
 refine ⟨aIp hb h0 h1 hk hf hx hg ho' hr, fun i hi => ?_⟩
 by_cases c : i < k
 . rw [ho' i c]; have := EG h0 h1 i; omega
 . exact FP hb hi (by omega) (hr i (by omega) hi)
theorem aAN {b : Nat -> Int} {n : Int} {k : Nat} (hb : MOk b) (h0 : 0 <= n) (h1 : n <= 9999) (hk : k < 4) (hf : ∀ i, i < k -> dB b n i) (hx : b k ≠ 88) (hg : b k < 48 + dg n k) : aCz b n k (Dn n) := by
 intro o ho hr
 have ho' : ∀ i, i < k -> o i = 48 + dg n i := fun i hi => by rw [ho i hi]; unfold Dn; rw [if_pos (by omega)]
 refine ⟨aJ6 hb h0 h1 hk hf hx hg ho' hr, fun i hi => ?_⟩
 by_cases c : i < k
 . rw [ho' i c]; have := EG h0 h1 i; omega
 . exact FP hb hi (by omega) (hr i (by omega) hi)
theorem aAM {b : Nat -> Int} {n : Int} {k j : Nat} (hb : MOk b) (h0 : 0 <= n) (h1 : n <= 9999) (hk : k < 4) (hf : ∀ i, i < k -> dB b n i) (hx : b k ≠ 88) (hg : b k < 48 + dg n k)
 (hj : j < k) (hbx : b j = 88) (hd : dg n j ≠ 9) (hn : ∀ i, j < i -> i < k -> ¬ (b i = 88 /\ dg n i ≠ 9)) : aCy b n (j + 1) (fun i => if i = j then 48 + dg n j + 1 else Dn n i) := by
 intro o ho hr
 have ho' : ∀ i, i < j -> o i = 48 + dg n i := fun i hi => by rw [ho i (by omega)]; dsimp only; rw [if_neg (by omega)]; unfold Dn; rw [if_pos (by omega)]
 have hoj : o j = 48 + dg n j + 1 := by rw [ho j (by omega)]; dsimp only; rw [if_pos rfl]
 have hr' : ∀ i, j < i -> i < 4 -> o i = if b i = 88 then 48 else b i := fun i h1 h2 => hr i (by omega) h2
 refine ⟨aIq hb h0 h1 hk hf hx hg hj hbx hd hn ho' hoj hr', fun i hi => ?_⟩
 by_cases c : i < j
 . rw [ho' i c]; have := EG h0 h1 i; omega
 . by_cases e : i = j
   . subst e; rw [hoj]; have := EG h0 h1 i; omega
   . exact FP hb hi (by omega) (hr i (by omega) hi)
theorem aAO {b : Nat -> Int} {n : Int} {k j : Nat} (hb : MOk b) (h0 : 0 <= n) (h1 : n <= 9999) (hk : k < 4) (hf : ∀ i, i < k -> dB b n i) (hx : b k ≠ 88) (hg : 48 + dg n k < b k)
 (hj : j < k) (hbx : b j = 88) (hd : dg n j ≠ 0) (hn : ∀ i, j < i -> i < k -> ¬ (b i = 88 /\ dg n i ≠ 0)) : aCz b n (j + 1) (fun i => if i = j then 48 + dg n j - 1 else Dn n i) := by
 intro o ho hr
 have ho' : ∀ i, i < j -> o i = 48 + dg n i := fun i hi => by rw [ho i (by omega)]; dsimp only; rw [if_neg (by omega)]; unfold Dn; rw [if_pos (by omega)]
 have hoj : o j = 48 + dg n j - 1 := by rw [ho j (by omega)]; dsimp only; rw [if_pos rfl]
 have hr' : ∀ i, j < i -> i < 4 -> o i = if b i = 88 then 57 else b i := fun i h1 h2 => hr i (by omega) h2
 refine ⟨aJ7 hb h0 h1 hk hf hx hg hj hbx hd hn ho' hoj hr', fun i hi => ?_⟩
 by_cases c : i < j
 . rw [ho' i c]; have := EG h0 h1 i; omega
 . by_cases e : i = j
   . subst e; rw [hoj]; have := EG h0 h1 i; omega
   . exact FP hb hi (by omega) (hr i (by omega) hi)
theorem TG (s : ByteArray) (n : Int) (w : World) (h4 : s.size = 4) (hx : allB dP s = true) (h0 : 0 <= n) (h1 : n <= 9999) :
 Calls Tryz.prog 199 #[.string s, .int .i64 n, .bool true] w (aCw (mM (aZ s) n) w) := by
 have hb := yA h4 hx
 have HS : Hid (∀ w, Calls Tryz.prog 220 #[.string s, .int .i64 n] w fun r w' => r = .returned (.agg (fK (Dn n)).toArray) /\ Below w.heap.size w w') := Lib.hid (fun w => by rw [zL]; exact ND s n w h4 h0 h1)
 have HV : Hid (∀ (o : Nat -> Int) (w : World), (∀ i, i < 4 -> 48 <= o i /\ o i <= 57) -> Calls Tryz.prog 221 #[.string s, .agg (fK o).toArray] w fun r w' => r = .returned (.int .i64 (dD o)) /\ Below w.heap.size w w') := Lib.hid (fun o w hd => by rw [zL]; exact NC s o w h4 hd)
 have H4 := Lib.hid h4
 have HM := Lib.hid hb
 have HH := Lib.hid (⟨h0, h1⟩ : 0 <= n /\ n <= 9999)
 clear h4 hx hb
 go_enter Tryz.func199, Tryz.ntmps199
 go_upto_region 4 with (fail)
 go_cut [10] (fun s10 wx => ∃ pa, s10 = .pointer (some ⟨pa, 0, none⟩) /\ Ar pa (Dn n) w wx)
 case first =>
  clear HV
  go_wp2_with (first
   | (go_at_call 220; with_reducible refine (HS.out _).mono ?_; rintro _ w1 ⟨rfl, hb1⟩; have z1 := Ar.fresh0 hb1 255)
   | (refine wpList_store_mid rfl 255 (.tmp 10) (.tmp 19) rfl w1.heap.size 0 (fK (Dn n)).toArray rfl rfl z1.there fA (V8 (Dn n)) ?_))
  go_meet
  exact ⟨_, rfl, z1.cO _⟩
 case rest =>
  obtain ⟨pa, rfl, hA⟩ := hcut
  clear HS
  go_upto_region 5 with (fail)
  go_cut [11] (fun s11 wx => ∃ pb, s11 = .pointer (some ⟨pb, 0, none⟩) /\ pb ≠ pa /\ Ar pa (Dn n) w wx /\ Ar pb (Dn n) w wx)
  case first =>
   clear HV
   have hR := hA.range
   have z1 := Ar.fresh0 hA.below 255
   have hne : wc.heap.size ≠ pa := by have := World.block_lt_of_cell? _ _ (hA.cell 0 (by omega)); show wc.heap.size ≠ pa; have h2 : pa < wc.heap.size := this; omega
   have hA2 := Lib.hid ((hA.alloc (.cells #[.int .u8 0, .int .u8 0, .int .u8 0, .int .u8 0, .int .u8 0, .int .u8 0, .int .u8 0, .int .u8 0, .int .u8 0, .int .u8 0, .int .u8 0, .int .u8 0, .int .u8 0, .int .u8 0, .int .u8 0, .int .u8 0, .int .u8 0, .int .u8 0] 255)).others hne hA.below.size (fK (Dn n)).toArray.toList 0)
   clear hA
   go_wp2_with (first
    | (refine wpList_load_mid rfl 255 (.tmp 10) rfl pa 0 rfl (fK (Dn n)) _ hR Tryz.underlying255 rfl fA ?_)
    | (refine wpList_store_mid rfl 255 (.tmp 11) (.tmp 20) rfl wc.heap.size 0 (fK (Dn n)).toArray rfl rfl z1.there fA (V8 (Dn n)) ?_))
   go_meet
   exact ⟨_, rfl, hne, hA2.out, z1.cO _⟩
  case rest =>
   obtain ⟨pb, rfl, hne, hA, hB⟩ := hcut
   have HNE := Lib.hid hne
   clear hne
   go_upto_block 0 with (fail)
   go_wp2
   go_loopw [12] (fun i wx => ∃ k : Nat, k <= 4 /\ i = .int .i64 k /\ (∀ i, i < k -> dB (aZ s) n i) /\ Ar pa (Dn n) w wx /\ Ar pb (Dn n) w wx) (fun i _ => 4 - (intOf i).toNat)
   case atStart => exact ⟨0, Nat.zero_le _, rfl, fun i hi => by omega, hA, hB⟩
   case round =>
    obtain ⟨k, hk, rfl, hf, hA2, hB2⟩ := hrel
    clear hA hB
    have HF := Lib.hid hf
    clear hf
    by_cases hlt : k < 4
    . have hks : k < s.size := by have := H4.out; omega
      have aSC : (k : Int) < s.size := by omega
      have hc := hA2.cell k (by omega)
      have hd : Dn n k = 48 + dg n k := by unfold Dn; rw [if_pos hlt]
      have hbk := bY s k hks
      rw [hd] at hc
      have HC := Lib.hid hbk
      have aSE : (k : Int) < 18 := by omega
      replace hA2 := Lib.hid hA2
      replace hB2 := Lib.hid hB2
      clear hd hbk
      obtain ⟨d, hdd⟩ : ∃ d, d = dg n k := ⟨_, rfl⟩
      rw [<- hdd] at hc
      replace hdd := Lib.hid hdd
      by_cases c1 : ((s[k]'hks).toNat : Int) = 88
      . as_aux_lemma =>
         have t1 : (((s[k]'hks).toNat : Int) == 88) = true := by rw [c1]; rfl
         have HFn : ∀ i, i < k + 1 -> dB (aZ s) n i := by
          intro i hi
          by_cases e : i = k
          . subst e; exact .inl (by rw [HC.out, c1])
          . exact HF.out i (by omega)
         replace HFn := Lib.hid HFn
         clear c1
         go_wp2
         go_quiet (fail)
         go_wp2
         go_roundw
         case rel => exact ⟨k + 1, by omega, by go_num, HFn.out, hA2.out.later (below_drewN (Below.refl _ _) _), hB2.out.later (below_drewN (Below.refl _ _) _)⟩
         case measure => simp [intOf]; omega
      . have t1 : (((s[k]'hks).toNat : Int) == 88) = false := by rw [beq_eq_false_iff_ne]; exact c1
        by_cases c2 : ((s[k]'hks).toNat : Int) = 48 + d
        . as_aux_lemma =>
           have t2 : (((s[k]'hks).toNat : Int) == 48 + d) = true := by rw [c2]; exact beq_self_eq_true _
           have HFn : ∀ i, i < k + 1 -> dB (aZ s) n i := by
            intro i hi
            by_cases e : i = k
            . subst e; exact .inr (by rw [HC.out, c2, hdd.out])
            . exact HF.out i (by omega)
           replace HFn := Lib.hid HFn
           clear c1 c2
           go_wp2
           go_quiet (fail)
           go_wp2
           go_roundw
           case rel => exact ⟨k + 1, by omega, by go_num, HFn.out, hA2.out.later (below_drewN (Below.refl _ _) _), hB2.out.later (below_drewN (Below.refl _ _) _)⟩
           case measure => simp [intOf]; omega
        . as_aux_lemma =>
           have t2 : (((s[k]'hks).toNat : Int) == 48 + d) = false := by rw [beq_eq_false_iff_ne]; exact c2
           have t3 : ((k : Int) == (s.size : Int)) = false := by rw [beq_eq_false_iff_ne]; omega
           have C1 := Lib.hid c1
           clear c1
           go_wp2
           go_quiet (fail)
           rename_i nq
           replace hA2 := Lib.hid (hA2.out.later (below_drewN (Below.refl wr.heap.size wr) nq))
           replace hB2 := Lib.hid (hB2.out.later (below_drewN (Below.refl wr.heap.size wr) nq))
           have hc2 : (wr.drewN nq).cell? ⟨pa, k, none⟩ = some (.int .u8 (48 + d)) := hc
           clear hc
           generalize wr.drewN nq = W2 at *
           go_wp2
           obtain ⟨BK, RJ⟩ : ∃ b : Bool, b = decide (((s[k]'hks).toNat : Int) < 48 + d) := ⟨_, rfl⟩
           go_upto_region 11 with (fail)
           go_cut [55] (fun s55 wx => s55 = .bool BK /\ ∃ nq, wx = W2.drewN nq)
           case first =>
            as_aux_lemma =>
             by_cases hh : 48 + d < ((s[k]'hks).toNat : Int)
             . obtain rfl : BK = false := by rw [RJ]; exact decide_eq_false (by omega)
               clear RJ
               have hcmp : decide (48 + d < ((s[k]'hks).toNat : Int)) = true := by first | exact decide_eq_true (by omega) | exact decide_eq_false (by omega)
               go_quiet (fail)
               go_wp2
               go_meet
               exact ⟨rfl, _, rfl⟩
             . have hh2 : ((s[k]'hks).toNat : Int) < 48 + d := by omega
               obtain rfl : BK = true := by rw [RJ]; exact decide_eq_true hh2
               have hcmp : decide (48 + d < ((s[k]'hks).toNat : Int)) = false := by first | exact decide_eq_true (by omega) | exact decide_eq_false (by omega)
               clear RJ hh
               go_quiet (fail)
               go_wp2
               go_meet
               exact ⟨rfl, _, rfl⟩
           case rest =>
            obtain ⟨rfl, nq2, rfl⟩ := hcut
            replace hA2 := Lib.hid (hA2.out.later (below_drewN (Below.refl W2.heap.size W2) nq2))
            replace hB2 := Lib.hid (hB2.out.later (below_drewN (Below.refl W2.heap.size W2) nq2))
            clear hc2 t1 t2 t3
            generalize W2.drewN nq2 = W3 at *
            go_upto_if 55 with (fail)
            go_cut [12] (fun s12 wx => ∃ (j : Nat) (o : Nat -> Int), j <= 4 /\ s12 = .int .i64 j /\ Ar pb o w wx /\ aCy (aZ s) n j o)
            case first =>
             as_aux_lemma =>
              clear HV
              cases BK
              . have hh : 48 + d < ((s[k]'hks).toNat : Int) := by have := of_decide_eq_false RJ.symm; omega
                have HG := aAL HM.out HH.out.1 HH.out.2 hlt HF.out (by rw [HC.out]; exact C1.out) (by rw [HC.out, <- hdd.out]; exact hh)
                replace HG := Lib.hid HG
                clear RJ hh
                go_wp2
                go_meet
                exact ⟨k, Dn n, by omega, rfl, hB2.out, HG.out⟩
              . have hh : ((s[k]'hks).toNat : Int) < 48 + d := of_decide_eq_true RJ.symm
                have hg2 := Lib.hid (show aZ s k < 48 + dg n k by rw [HC.out, <- hdd.out]; exact hh)
                clear RJ hh hdd
                go_wp2
                go_step3
                go_wp2
                go_step3
                go_wp2
                go_loopw [12] (fun i wx => ∃ m : Nat, m <= k /\ i = .int .i64 m /\ (∀ i, m <= i -> i < k -> ¬ (aZ s i = 88 /\ dg n i ≠ 9)) /\ Ar pa (Dn n) w wx /\ Ar pb (Dn n) w wx) (fun i _ => (intOf i).toNat)
                case atStart => exact ⟨k, Nat.le_refl _, rfl, fun i h1 h2 => by omega, hA2.out, hB2.out⟩
                case round =>
                 obtain ⟨m, hm, hi, hno, hA3, hB3⟩ := hrel
                 clear hA2 hB2
                 have HNO := Lib.hid hno
                 clear hno
                 by_cases hm0 : 0 < m
                 . obtain ⟨q, rfl⟩ : ∃ q, m = q + 1 := ⟨m - 1, by omega⟩
                   rw [show (((q + 1 : Nat)) : Int) = (q : Int) + 1 by omega] at hi
                   subst hi
                   have hq4 : q < 4 := by omega
                   have hqs : q < s.size := by omega
                   have aSv : (q : Int) < s.size := by omega
                   have aSx : (q : Int) < 18 := by omega
                   have hca := hA3.cell q (by omega)
                   have hcb := hB3.cell q (by omega)
                   have hfb := hB3.free q (by omega)
                   have hDq : Dn n q = 48 + dg n q := by unfold Dn; rw [if_pos hq4]
                   rw [hDq] at hca hcb
                   have hbq := Lib.hid (bY s q hqs)
                   have hqb := EG HH.out.1 HH.out.2 q
                   obtain ⟨e, he⟩ : ∃ e, e = dg n q := ⟨_, rfl⟩
                   rw [<- he] at hca hcb hqb
                   replace he := Lib.hid he
                   obtain ⟨b0, b1⟩ := hqb
                   clear hDq
                   have hX := Lib.hid (hB3.set q (by omega) (48 + e + 1))
                   by_cases g1 : ((s[q]'hqs).toNat : Int) = 88
                   . by_cases g2 : e = 9
                     . as_aux_lemma =>
                        have u1 : (((s[q]'hqs).toNat : Int) == 88) = true := by rw [g1]; rfl
                        have u2 : (48 + e != 57) = false := by rw [g2]; rfl
                        have hN : ∀ i, q <= i -> i < k -> ¬ (aZ s i = 88 /\ dg n i ≠ 9) := by
                         intro i h1 h2
                         by_cases c : i = q
                         . subst c; rintro ⟨_, h⟩; exact h (by rw [<- he.out]; exact g2)
                         . exact HNO.out i (by omega) h2
                        replace hN := Lib.hid hN
                        replace hA3 := Lib.hid hA3
                        replace hB3 := Lib.hid hB3
                        clear g1 g2
                        go_wp2
                        go_roundw
                        case rel => exact ⟨q, by omega, rfl, hN.out, hA3.out, hB3.out⟩
                        case measure => simp [intOf]
                     . as_aux_lemma =>
                        have u1 : (((s[q]'hqs).toNat : Int) == 88) = true := by rw [g1]; rfl
                        have u2 : (48 + e != 57) = true := by rw [bne_iff_ne]; omega
                        have hGd : aCy (aZ s) n (q + 1) (fun i => if i = q then 48 + dg n q + 1 else Dn n i) := aAM HM.out HH.out.1 HH.out.2 hlt HF.out (by rw [HC.out]; exact C1.out) hg2.out (by omega) (by rw [hbq.out]; exact g1) (by rw [<- he.out]; exact g2) (fun i h1 h2 => HNO.out i (by omega) h2)
                        rw [<- he.out] at hGd
                        replace hGd := Lib.hid hGd
                        have ee : e <= 8 := by omega
                        replace hA3 := Lib.hid hA3
                        replace hB3 := Lib.hid hB3
                        clear g1 g2
                        go_wp2
                        rw [Exit.noGoto_normal]
                        go_wp2
                        go_meet
                        exact ⟨q + 1, _, by omega, by go_num, hX.out, hGd.out⟩
                   . as_aux_lemma =>
                      have u1 : (((s[q]'hqs).toNat : Int) == 88) = false := by rw [beq_eq_false_iff_ne]; exact g1
                      have hN : ∀ i, q <= i -> i < k -> ¬ (aZ s i = 88 /\ dg n i ≠ 9) := by
                       intro i h1 h2
                       by_cases c : i = q
                       . subst c; rintro ⟨h, _⟩; exact g1 (by rw [<- hbq.out]; exact h)
                       . exact HNO.out i (by omega) h2
                      replace hN := Lib.hid hN
                      replace hA3 := Lib.hid hA3
                      replace hB3 := Lib.hid hB3
                      clear g1
                      go_wp2
                      go_roundw
                      case rel => exact ⟨q, by omega, rfl, hN.out, hA3.out, hB3.out⟩
                      case measure => simp [intOf]
                 . as_aux_lemma =>
                    obtain rfl : m = 0 := by omega
                    subst hi
                    have hN : mM (aZ s) n 0 16 := .inr ⟨rfl, rfl, aIo HH.out.1 HH.out.2 hlt HF.out (by rw [HC.out]; exact C1.out) hg2.out (fun i hi => HNO.out i (by omega) hi)⟩
                    replace hN := Lib.hid hN
                    have HB := Lib.hid hA3.below
                    clear hA3 hB3
                    go_wp2
                    rw [Exit.noGoto_ret]
                    go_wp2
                    go_ret2
                    exact ⟨_, _, hN.out, rfl, HB.out⟩
            case rest =>
             as_aux_lemma =>
              obtain ⟨j, o, hj, rfl, hO, hG⟩ := hcut
              clear hA2 hB2 RJ
              have HG := Lib.hid hG
              clear hG
              go_wp2
              go_loopw [12] (fun i wx => ∃ (m : Nat) (o2 : Nat -> Int), m <= 4 /\ j <= m /\ i = .int .i64 m /\ Ar pb o2 w wx /\ (∀ i, i < j -> o2 i = o i) /\ (∀ i, j <= i -> i < m -> o2 i = if aZ s i = 88 then 48 else aZ s i)) (fun i _ => 4 - (intOf i).toNat)
              case atStart => exact ⟨j, o, hj, Nat.le_refl _, rfl, hO, fun i _ => rfl, fun i h1 h2 => by omega⟩
              case round =>
               obtain ⟨m, o2, hm, hjm, rfl, hO2, hlo, hfi⟩ := hrel
               clear hO
               have PD := Lib.hid hlo
               have HFI := Lib.hid hfi
               clear hlo hfi
               by_cases hm4 : m < 4
               . as_aux_lemma =>
                  have hms : m < s.size := by have := H4.out; omega
                  have aMh : (m : Int) < s.size := by omega
                  have hm18 : (m : Int) < 18 := by omega
                  have hbm := bY s m hms
                  have hcm := hO2.cell m (by omega)
                  have hfm := hO2.free m (by omega)
                  have hX1 := hO2.set m (by omega) ((s[m]'hms).toNat : Int)
                  have hc1 := hX1.cell m (by omega)
                  have hf1 := hX1.free m (by omega)
                  by_cases g1 : ((s[m]'hms).toNat : Int) = 88
                  . have u1 : (((s[m]'hms).toNat : Int) == 88) = true := by rw [g1]; rfl
                    have hX2 := (hX1.set m (by omega) 48).congr (o' := fun i => if i = m then (if aZ s m = 88 then 48 else aZ s m) else o2 i) (fun i _ => by
                     (try dsimp only)
                     by_cases c : i = m
                     . rw [if_pos c, if_pos c, if_pos (by rw [hbm]; exact g1)]
                     . rw [if_neg c, if_neg c, if_neg c])
                    replace hX2 := Lib.hid hX2
                    replace hO2 := Lib.hid hO2
                    clear hX1 hc1 hbm g1
                    go_wp2
                    go_roundw
                    case rel => exact ⟨m + 1, _, by omega, by omega, by go_num, hX2.out, fun i hi => by (try dsimp only); rw [if_neg (by omega)]; exact PD.out i hi, fun i h1 h2 => by
                     (try dsimp only)
                     by_cases c : i = m
                     . subst c; rw [if_pos rfl]
                     . rw [if_neg c]; exact HFI.out i h1 (by omega)⟩
                    case measure => simp [intOf]; omega
                  . have u1 : (((s[m]'hms).toNat : Int) == 88) = false := by rw [beq_eq_false_iff_ne]; exact g1
                    have hX2 := hX1.congr (o' := fun i => if i = m then (if aZ s m = 88 then 48 else aZ s m) else o2 i) (fun i _ => by
                     (try dsimp only)
                     by_cases c : i = m
                     . rw [if_pos c, if_pos c, if_neg (by rw [hbm]; exact g1), hbm]
                     . rw [if_neg c, if_neg c])
                    replace hX2 := Lib.hid hX2
                    replace hO2 := Lib.hid hO2
                    clear hX1 hc1 hf1 hbm g1
                    go_wp2
                    go_roundw
                    case rel => exact ⟨m + 1, _, by omega, by omega, by go_num, hX2.out, fun i hi => by (try dsimp only); rw [if_neg (by omega)]; exact PD.out i hi, fun i h1 h2 => by
                     (try dsimp only)
                     by_cases c : i = m
                     . subst c; rw [if_pos rfl]
                     . rw [if_neg c]; exact HFI.out i h1 (by omega)⟩
                    case measure => simp [intOf]; omega
               . as_aux_lemma =>
                  obtain rfl : m = 4 := by omega
                  obtain ⟨hv, hb⟩ := HG.out o2 PD.out HFI.out
                  have hV := Lib.hid (fun w => HV.out o2 w hb)
                  have hN : mM (aZ s) n (dD o2) 0 := .inl ⟨rfl, hv⟩
                  replace hN := Lib.hid hN
                  have aMh : ((4 : Nat) : Int) < s.size -> False := by have := H4.out; omega
                  have hR := hO2.range
                  have HB := Lib.hid hO2.below
                  have h4b := H4.out
                  clear hO2 HG HFI PD hv hb
                  go_wp2_with (first
                   | (refine wpList_load_mid rfl 255 (.tmp 11) rfl pb 0 rfl (fK o2) _ hR Tryz.underlying255 rfl fA ?_)
                   | (go_at_call 221; with_reducible refine (hV.out _).mono ?_; rintro _ w9 ⟨rfl, hb9⟩))
                  go_ret2
                  exact ⟨_, _, hN.out, rfl, bt HB.out hb9⟩
    . as_aux_lemma =>
       obtain rfl : k = 4 := by omega
       have hN : mM (aZ s) n n 0 := .inl ⟨rfl, JJ HH.out.1 HH.out.2 HF.out, Int.le_refl _, fun f _ hf => hf⟩
       replace hN := Lib.hid hN
       have HB := Lib.hid hA2.below
       have h4b := H4.out
       clear hA2 hB2
       go_wp2
       go_quiet (fail)
       go_wp2
       go_ret2
       exact ⟨_, _, hN.out, rfl, below_drewN HB.out _⟩
theorem TI (s : ByteArray) (n : Int) (w : World) (h4 : s.size = 4) (hx : allB dP s = true) (h0 : 0 <= n) (h1 : n <= 9999) :
 Calls Tryz.prog 199 #[.string s, .int .i64 n, .bool false] w (aCw (pJ (aZ s) n) w) := by
 have hb := yA h4 hx
 have HS : Hid (∀ w, Calls Tryz.prog 220 #[.string s, .int .i64 n] w fun r w' => r = .returned (.agg (fK (Dn n)).toArray) /\ Below w.heap.size w w') := Lib.hid (fun w => by rw [zL]; exact ND s n w h4 h0 h1)
 have HV : Hid (∀ (o : Nat -> Int) (w : World), (∀ i, i < 4 -> 48 <= o i /\ o i <= 57) -> Calls Tryz.prog 221 #[.string s, .agg (fK o).toArray] w fun r w' => r = .returned (.int .i64 (dD o)) /\ Below w.heap.size w w') := Lib.hid (fun o w hd => by rw [zL]; exact NC s o w h4 hd)
 have H4 := Lib.hid h4
 have HM := Lib.hid hb
 have HH := Lib.hid (⟨h0, h1⟩ : 0 <= n /\ n <= 9999)
 clear h4 hx hb
 go_enter Tryz.func199, Tryz.ntmps199
 go_upto_region 4 with (fail)
 go_cut [10] (fun s10 wx => ∃ pa, s10 = .pointer (some ⟨pa, 0, none⟩) /\ Ar pa (Dn n) w wx)
 case first =>
  clear HV
  go_wp2_with (first
   | (go_at_call 220; with_reducible refine (HS.out _).mono ?_; rintro _ w1 ⟨rfl, hb1⟩; have z1 := Ar.fresh0 hb1 255)
   | (refine wpList_store_mid rfl 255 (.tmp 10) (.tmp 19) rfl w1.heap.size 0 (fK (Dn n)).toArray rfl rfl z1.there fA (V8 (Dn n)) ?_))
  go_meet
  exact ⟨_, rfl, z1.cO _⟩
 case rest =>
  obtain ⟨pa, rfl, hA⟩ := hcut
  clear HS
  go_upto_region 5 with (fail)
  go_cut [11] (fun s11 wx => ∃ pb, s11 = .pointer (some ⟨pb, 0, none⟩) /\ pb ≠ pa /\ Ar pa (Dn n) w wx /\ Ar pb (Dn n) w wx)
  case first =>
   clear HV
   have hR := hA.range
   have z1 := Ar.fresh0 hA.below 255
   have hne : wc.heap.size ≠ pa := by have := World.block_lt_of_cell? _ _ (hA.cell 0 (by omega)); show wc.heap.size ≠ pa; have h2 : pa < wc.heap.size := this; omega
   have hA2 := Lib.hid ((hA.alloc (.cells #[.int .u8 0, .int .u8 0, .int .u8 0, .int .u8 0, .int .u8 0, .int .u8 0, .int .u8 0, .int .u8 0, .int .u8 0, .int .u8 0, .int .u8 0, .int .u8 0, .int .u8 0, .int .u8 0, .int .u8 0, .int .u8 0, .int .u8 0, .int .u8 0] 255)).others hne hA.below.size (fK (Dn n)).toArray.toList 0)
   clear hA
   go_wp2_with (first
    | (refine wpList_load_mid rfl 255 (.tmp 10) rfl pa 0 rfl (fK (Dn n)) _ hR Tryz.underlying255 rfl fA ?_)
    | (refine wpList_store_mid rfl 255 (.tmp 11) (.tmp 20) rfl wc.heap.size 0 (fK (Dn n)).toArray rfl rfl z1.there fA (V8 (Dn n)) ?_))
   go_meet
   exact ⟨_, rfl, hne, hA2.out, z1.cO _⟩
  case rest =>
   obtain ⟨pb, rfl, hne, hA, hB⟩ := hcut
   have HNE := Lib.hid hne
   clear hne
   go_upto_block 0 with (fail)
   go_wp2
   go_loopw [12] (fun i wx => ∃ k : Nat, k <= 4 /\ i = .int .i64 k /\ (∀ i, i < k -> dB (aZ s) n i) /\ Ar pa (Dn n) w wx /\ Ar pb (Dn n) w wx) (fun i _ => 4 - (intOf i).toNat)
   case atStart => exact ⟨0, Nat.zero_le _, rfl, fun i hi => by omega, hA, hB⟩
   case round =>
    obtain ⟨k, hk, rfl, hf, hA2, hB2⟩ := hrel
    clear hA hB
    have HF := Lib.hid hf
    clear hf
    by_cases hlt : k < 4
    . have hks : k < s.size := by have := H4.out; omega
      have aSC : (k : Int) < s.size := by omega
      have hc := hA2.cell k (by omega)
      have hd : Dn n k = 48 + dg n k := by unfold Dn; rw [if_pos hlt]
      have hbk := bY s k hks
      rw [hd] at hc
      have HC := Lib.hid hbk
      have aSE : (k : Int) < 18 := by omega
      replace hA2 := Lib.hid hA2
      replace hB2 := Lib.hid hB2
      clear hd hbk
      obtain ⟨d, hdd⟩ : ∃ d, d = dg n k := ⟨_, rfl⟩
      rw [<- hdd] at hc
      replace hdd := Lib.hid hdd
      by_cases c1 : ((s[k]'hks).toNat : Int) = 88
      . as_aux_lemma =>
         have t1 : (((s[k]'hks).toNat : Int) == 88) = true := by rw [c1]; rfl
         have HFn : ∀ i, i < k + 1 -> dB (aZ s) n i := by
          intro i hi
          by_cases e : i = k
          . subst e; exact .inl (by rw [HC.out, c1])
          . exact HF.out i (by omega)
         replace HFn := Lib.hid HFn
         clear c1
         go_wp2
         go_quiet (fail)
         go_wp2
         go_roundw
         case rel => exact ⟨k + 1, by omega, by go_num, HFn.out, hA2.out.later (below_drewN (Below.refl _ _) _), hB2.out.later (below_drewN (Below.refl _ _) _)⟩
         case measure => simp [intOf]; omega
      . have t1 : (((s[k]'hks).toNat : Int) == 88) = false := by rw [beq_eq_false_iff_ne]; exact c1
        by_cases c2 : ((s[k]'hks).toNat : Int) = 48 + d
        . as_aux_lemma =>
           have t2 : (((s[k]'hks).toNat : Int) == 48 + d) = true := by rw [c2]; exact beq_self_eq_true _
           have HFn : ∀ i, i < k + 1 -> dB (aZ s) n i := by
            intro i hi
            by_cases e : i = k
            . subst e; exact .inr (by rw [HC.out, c2, hdd.out])
            . exact HF.out i (by omega)
           replace HFn := Lib.hid HFn
           clear c1 c2
           go_wp2
           go_quiet (fail)
           go_wp2
           go_roundw
           case rel => exact ⟨k + 1, by omega, by go_num, HFn.out, hA2.out.later (below_drewN (Below.refl _ _) _), hB2.out.later (below_drewN (Below.refl _ _) _)⟩
           case measure => simp [intOf]; omega
        . as_aux_lemma =>
           have t2 : (((s[k]'hks).toNat : Int) == 48 + d) = false := by rw [beq_eq_false_iff_ne]; exact c2
           have t3 : ((k : Int) == (s.size : Int)) = false := by rw [beq_eq_false_iff_ne]; omega
           have C1 := Lib.hid c1
           clear c1
           go_wp2
           go_quiet (fail)
           rename_i nq
           replace hA2 := Lib.hid (hA2.out.later (below_drewN (Below.refl wr.heap.size wr) nq))
           replace hB2 := Lib.hid (hB2.out.later (below_drewN (Below.refl wr.heap.size wr) nq))
           have hc2 : (wr.drewN nq).cell? ⟨pa, k, none⟩ = some (.int .u8 (48 + d)) := hc
           clear hc
           generalize wr.drewN nq = W2 at *
           go_wp2
           obtain ⟨BK, RJ⟩ : ∃ b : Bool, b = decide (48 + d < ((s[k]'hks).toNat : Int)) := ⟨_, rfl⟩
           go_upto_region 11 with (fail)
           go_cut [55] (fun s55 wx => s55 = .bool BK /\ ∃ nq, wx = W2.drewN nq)
           case first =>
            as_aux_lemma =>
             by_cases hh : ((s[k]'hks).toNat : Int) < 48 + d
             . obtain rfl : BK = false := by rw [RJ]; exact decide_eq_false (by omega)
               clear RJ
               have hcmp : decide (48 + d < ((s[k]'hks).toNat : Int)) = false := by first | exact decide_eq_true (by omega) | exact decide_eq_false (by omega)
               go_quiet (fail)
               go_wp2
               go_meet
               exact ⟨rfl, _, rfl⟩
             . have hh2 : 48 + d < ((s[k]'hks).toNat : Int) := by omega
               obtain rfl : BK = true := by rw [RJ]; exact decide_eq_true hh2
               have hcmp : decide (48 + d < ((s[k]'hks).toNat : Int)) = true := by first | exact decide_eq_true (by omega) | exact decide_eq_false (by omega)
               clear RJ hh
               go_quiet (fail)
               go_wp2
               go_meet
               exact ⟨rfl, _, rfl⟩
           case rest =>
            obtain ⟨rfl, nq2, rfl⟩ := hcut
            replace hA2 := Lib.hid (hA2.out.later (below_drewN (Below.refl W2.heap.size W2) nq2))
            replace hB2 := Lib.hid (hB2.out.later (below_drewN (Below.refl W2.heap.size W2) nq2))
            clear hc2 t1 t2 t3
            generalize W2.drewN nq2 = W3 at *
            go_upto_if 55 with (fail)
            go_cut [12] (fun s12 wx => ∃ (j : Nat) (o : Nat -> Int), j <= 4 /\ s12 = .int .i64 j /\ Ar pb o w wx /\ aCz (aZ s) n j o)
            case first =>
             as_aux_lemma =>
              clear HV
              cases BK
              . have hh : ((s[k]'hks).toNat : Int) < 48 + d := by have := of_decide_eq_false RJ.symm; omega
                have HG := aAN HM.out HH.out.1 HH.out.2 hlt HF.out (by rw [HC.out]; exact C1.out) (by rw [HC.out, <- hdd.out]; exact hh)
                replace HG := Lib.hid HG
                clear RJ hh
                go_wp2
                go_meet
                exact ⟨k, Dn n, by omega, rfl, hB2.out, HG.out⟩
              . have hh : 48 + d < ((s[k]'hks).toNat : Int) := of_decide_eq_true RJ.symm
                have hg2 := Lib.hid (show 48 + dg n k < aZ s k by rw [HC.out, <- hdd.out]; exact hh)
                clear RJ hh hdd
                go_wp2
                go_step3
                go_wp2
                go_step3
                go_wp2
                go_loopw [12] (fun i wx => ∃ m : Nat, m <= k /\ i = .int .i64 m /\ (∀ i, m <= i -> i < k -> ¬ (aZ s i = 88 /\ dg n i ≠ 0)) /\ Ar pa (Dn n) w wx /\ Ar pb (Dn n) w wx) (fun i _ => (intOf i).toNat)
                case atStart => exact ⟨k, Nat.le_refl _, rfl, fun i h1 h2 => by omega, hA2.out, hB2.out⟩
                case round =>
                 obtain ⟨m, hm, hi, hno, hA3, hB3⟩ := hrel
                 clear hA2 hB2
                 have HNO := Lib.hid hno
                 clear hno
                 by_cases hm0 : 0 < m
                 . obtain ⟨q, rfl⟩ : ∃ q, m = q + 1 := ⟨m - 1, by omega⟩
                   rw [show (((q + 1 : Nat)) : Int) = (q : Int) + 1 by omega] at hi
                   subst hi
                   have hq4 : q < 4 := by omega
                   have hqs : q < s.size := by omega
                   have aSv : (q : Int) < s.size := by omega
                   have aSx : (q : Int) < 18 := by omega
                   have hca := hA3.cell q (by omega)
                   have hcb := hB3.cell q (by omega)
                   have hfb := hB3.free q (by omega)
                   have hDq : Dn n q = 48 + dg n q := by unfold Dn; rw [if_pos hq4]
                   rw [hDq] at hca hcb
                   have hbq := Lib.hid (bY s q hqs)
                   have hqb := EG HH.out.1 HH.out.2 q
                   obtain ⟨e, he⟩ : ∃ e, e = dg n q := ⟨_, rfl⟩
                   rw [<- he] at hca hcb hqb
                   replace he := Lib.hid he
                   obtain ⟨b0, b1⟩ := hqb
                   clear hDq
                   have hX := Lib.hid (hB3.set q (by omega) (48 + e - 1))
                   by_cases g1 : ((s[q]'hqs).toNat : Int) = 88
                   . by_cases g2 : e = 0
                     . as_aux_lemma =>
                        have u1 : (((s[q]'hqs).toNat : Int) == 88) = true := by rw [g1]; rfl
                        have u2 : (48 + e != 48) = false := by rw [g2]; rfl
                        have hN : ∀ i, q <= i -> i < k -> ¬ (aZ s i = 88 /\ dg n i ≠ 0) := by
                         intro i h1 h2
                         by_cases c : i = q
                         . subst c; rintro ⟨_, h⟩; exact h (by rw [<- he.out]; exact g2)
                         . exact HNO.out i (by omega) h2
                        replace hN := Lib.hid hN
                        replace hA3 := Lib.hid hA3
                        replace hB3 := Lib.hid hB3
                        clear g1 g2
                        go_wp2
                        go_roundw
                        case rel => exact ⟨q, by omega, rfl, hN.out, hA3.out, hB3.out⟩
                        case measure => simp [intOf]
                     . as_aux_lemma =>
                        have u1 : (((s[q]'hqs).toNat : Int) == 88) = true := by rw [g1]; rfl
                        have u2 : (48 + e != 48) = true := by rw [bne_iff_ne]; omega
                        have hGd : aCz (aZ s) n (q + 1) (fun i => if i = q then 48 + dg n q - 1 else Dn n i) := aAO HM.out HH.out.1 HH.out.2 hlt HF.out (by rw [HC.out]; exact C1.out) hg2.out (by omega) (by rw [hbq.out]; exact g1) (by rw [<- he.out]; exact g2) (fun i h1 h2 => HNO.out i (by omega) h2)
                        rw [<- he.out] at hGd
                        replace hGd := Lib.hid hGd
                        have ee : 1 <= e := by omega
                        replace hA3 := Lib.hid hA3
                        replace hB3 := Lib.hid hB3
                        clear g1 g2
                        go_wp2
                        rw [Exit.noGoto_normal]
                        go_wp2
                        go_meet
                        exact ⟨q + 1, _, by omega, by go_num, hX.out, hGd.out⟩
                   . as_aux_lemma =>
                      have u1 : (((s[q]'hqs).toNat : Int) == 88) = false := by rw [beq_eq_false_iff_ne]; exact g1
                      have hN : ∀ i, q <= i -> i < k -> ¬ (aZ s i = 88 /\ dg n i ≠ 0) := by
                       intro i h1 h2
                       by_cases c : i = q
                       . subst c; rintro ⟨h, _⟩; exact g1 (by rw [<- hbq.out]; exact h)
                       . exact HNO.out i (by omega) h2
                      replace hN := Lib.hid hN
                      replace hA3 := Lib.hid hA3
                      replace hB3 := Lib.hid hB3
                      clear g1
                      go_wp2
                      go_roundw
                      case rel => exact ⟨q, by omega, rfl, hN.out, hA3.out, hB3.out⟩
                      case measure => simp [intOf]
                 . as_aux_lemma =>
                    obtain rfl : m = 0 := by omega
                    subst hi
                    have hN : pJ (aZ s) n 0 16 := .inr ⟨rfl, rfl, aJ5 HH.out.1 HH.out.2 hlt HF.out (by rw [HC.out]; exact C1.out) hg2.out (fun i hi => HNO.out i (by omega) hi)⟩
                    replace hN := Lib.hid hN
                    have HB := Lib.hid hA3.below
                    clear hA3 hB3
                    go_wp2
                    rw [Exit.noGoto_ret]
                    go_wp2
                    go_ret2
                    exact ⟨_, _, hN.out, rfl, HB.out⟩
            case rest =>
             as_aux_lemma =>
              obtain ⟨j, o, hj, rfl, hO, hG⟩ := hcut
              clear hA2 hB2 RJ
              have HG := Lib.hid hG
              clear hG
              go_wp2
              go_loopw [12] (fun i wx => ∃ (m : Nat) (o2 : Nat -> Int), m <= 4 /\ j <= m /\ i = .int .i64 m /\ Ar pb o2 w wx /\ (∀ i, i < j -> o2 i = o i) /\ (∀ i, j <= i -> i < m -> o2 i = if aZ s i = 88 then 57 else aZ s i)) (fun i _ => 4 - (intOf i).toNat)
              case atStart => exact ⟨j, o, hj, Nat.le_refl _, rfl, hO, fun i _ => rfl, fun i h1 h2 => by omega⟩
              case round =>
               obtain ⟨m, o2, hm, hjm, rfl, hO2, hlo, hfi⟩ := hrel
               clear hO
               have PD := Lib.hid hlo
               have HFI := Lib.hid hfi
               clear hlo hfi
               by_cases hm4 : m < 4
               . as_aux_lemma =>
                  have hms : m < s.size := by have := H4.out; omega
                  have aMh : (m : Int) < s.size := by omega
                  have hm18 : (m : Int) < 18 := by omega
                  have hbm := bY s m hms
                  have hcm := hO2.cell m (by omega)
                  have hfm := hO2.free m (by omega)
                  have hX1 := hO2.set m (by omega) ((s[m]'hms).toNat : Int)
                  have hc1 := hX1.cell m (by omega)
                  have hf1 := hX1.free m (by omega)
                  by_cases g1 : ((s[m]'hms).toNat : Int) = 88
                  . have u1 : (((s[m]'hms).toNat : Int) == 88) = true := by rw [g1]; rfl
                    have hX2 := (hX1.set m (by omega) 57).congr (o' := fun i => if i = m then (if aZ s m = 88 then 57 else aZ s m) else o2 i) (fun i _ => by
                     (try dsimp only)
                     by_cases c : i = m
                     . rw [if_pos c, if_pos c, if_pos (by rw [hbm]; exact g1)]
                     . rw [if_neg c, if_neg c, if_neg c])
                    replace hX2 := Lib.hid hX2
                    replace hO2 := Lib.hid hO2
                    clear hX1 hc1 hbm g1
                    go_wp2
                    go_roundw
                    case rel => exact ⟨m + 1, _, by omega, by omega, by go_num, hX2.out, fun i hi => by (try dsimp only); rw [if_neg (by omega)]; exact PD.out i hi, fun i h1 h2 => by
                     (try dsimp only)
                     by_cases c : i = m
                     . subst c; rw [if_pos rfl]
                     . rw [if_neg c]; exact HFI.out i h1 (by omega)⟩
                    case measure => simp [intOf]; omega
                  . have u1 : (((s[m]'hms).toNat : Int) == 88) = false := by rw [beq_eq_false_iff_ne]; exact g1
                    have hX2 := hX1.congr (o' := fun i => if i = m then (if aZ s m = 88 then 57 else aZ s m) else o2 i) (fun i _ => by
                     (try dsimp only)
                     by_cases c : i = m
                     . rw [if_pos c, if_pos c, if_neg (by rw [hbm]; exact g1), hbm]
                     . rw [if_neg c, if_neg c])
                    replace hX2 := Lib.hid hX2
                    replace hO2 := Lib.hid hO2
                    clear hX1 hc1 hf1 hbm g1
                    go_wp2
                    go_roundw
                    case rel => exact ⟨m + 1, _, by omega, by omega, by go_num, hX2.out, fun i hi => by (try dsimp only); rw [if_neg (by omega)]; exact PD.out i hi, fun i h1 h2 => by
                     (try dsimp only)
                     by_cases c : i = m
                     . subst c; rw [if_pos rfl]
                     . rw [if_neg c]; exact HFI.out i h1 (by omega)⟩
                    case measure => simp [intOf]; omega
               . as_aux_lemma =>
                  obtain rfl : m = 4 := by omega
                  obtain ⟨hv, hb⟩ := HG.out o2 PD.out HFI.out
                  have hV := Lib.hid (fun w => HV.out o2 w hb)
                  have hN : pJ (aZ s) n (dD o2) 0 := .inl ⟨rfl, hv⟩
                  replace hN := Lib.hid hN
                  have aMh : ((4 : Nat) : Int) < s.size -> False := by have := H4.out; omega
                  have hR := hO2.range
                  have HB := Lib.hid hO2.below
                  have h4b := H4.out
                  clear hO2 HG HFI PD hv hb
                  go_wp2_with (first
                   | (refine wpList_load_mid rfl 255 (.tmp 11) rfl pb 0 rfl (fK o2) _ hR Tryz.underlying255 rfl fA ?_)
                   | (go_at_call 221; with_reducible refine (hV.out _).mono ?_; rintro _ w9 ⟨rfl, hb9⟩))
                  go_ret2
                  exact ⟨_, _, hN.out, rfl, bt HB.out hb9⟩
    . as_aux_lemma =>
       obtain rfl : k = 4 := by omega
       have hN : pJ (aZ s) n n 0 := .inl ⟨rfl, JJ HH.out.1 HH.out.2 HF.out, Int.le_refl _, fun f _ hf => hf⟩
       replace hN := Lib.hid hN
       have HB := Lib.hid hA2.below
       have h4b := H4.out
       clear hA2 hB2
       go_wp2
       go_quiet (fail)
       go_wp2
       go_ret2
       exact ⟨_, _, hN.out, rfl, below_drewN HB.out _⟩
end Bk
end
section
open Go.RowKit Go.Lib
namespace Bk
open Un (ba bt ri rb aX bP)
def fl (b : Nat -> Int) (x : Int) (i : Nat) : Int := if b i = 88 then x else b i
theorem aKP {b : Nat -> Int} (hb : MOk b) {x : Int} (h0 : 48 <= x) (h1 : x <= 57) (i : Nat) (hi : i < 4) : 48 <= fl b x i /\ fl b x i <= 57 := by
 have := hb i hi
 unfold fl; split <;> omega
theorem aDP (s : ByteArray) (w : World) (h4 : s.size = 4) (hx : allB dP s = true) :
 Calls Tryz.prog 197 #[.string s] w fun r w' => r = .returned (.tuple #[.int .i64 (dD (fl (aZ s) 48)), .int .i64 0]) /\ Below w.heap.size w w' := by
 have hb := yA h4 hx
 have HC := Lib.hid (fun w => rX s w h4 hx)
 have HF := Lib.hid (fun w => yI s 48 (fl (aZ s) 48) w h4 (fun i _ => rfl) (fun i hi => aKP hb (by omega) (by omega) i hi))
 clear h4 hx hb
 generalize dD (fl (aZ s) 48) = v at *
 go_enter Tryz.func197, Tryz.ntmps197
 go_wp2_with fail
 refine (HC.out _).mono ?_; rintro _ w1 ⟨rfl, hb1⟩
 go_wp2_with fail
 refine (HF.out _).mono ?_; rintro _ w2 ⟨rfl, hb2⟩
 go_wp2_with fail
 go_ret2
 exact ⟨rfl, bt hb1 hb2⟩
theorem RN (s : ByteArray) (w : World) (h4 : s.size = 4) (hx : allB dP s = true) :
 Calls Tryz.prog 200 #[.string s] w fun r w' => r = .returned (.tuple #[.int .i64 (dD (fl (aZ s) 57)), .int .i64 0]) /\ Below w.heap.size w w' := by
 have hb := yA h4 hx
 have HC := Lib.hid (fun w => rX s w h4 hx)
 have HF := Lib.hid (fun w => yI s 57 (fl (aZ s) 57) w h4 (fun i _ => rfl) (fun i hi => aKP hb (by omega) (by omega) i hi))
 clear h4 hx hb
 generalize dD (fl (aZ s) 57) = v at *
 go_enter Tryz.func200, Tryz.ntmps200
 go_wp2_with fail
 refine (HC.out _).mono ?_; rintro _ w1 ⟨rfl, hb1⟩
 go_wp2_with fail
 refine (HF.out _).mono ?_; rintro _ w2 ⟨rfl, hb2⟩
 go_wp2_with fail
 go_ret2
 exact ⟨rfl, bt hb1 hb2⟩
theorem N8 (s : ByteArray) (n : Int) (w : World) (h4 : s.size = 4) (hx : allB dP s = true) :
 Calls Tryz.prog 160 #[.string s, .int .i64 n] w (aCw (mM (aZ s) n) w) := by
 have hb := yA h4 hx
 have HC := Lib.hid (fun w => rX s w h4 hx)
 by_cases c : n < 0
 . have HL := Lib.hid (fun w => aDP s w h4 hx)
   have hN : mM (aZ s) n (dD (fl (aZ s) 48)) 0 := by
    obtain ⟨g1, g2⟩ := OD hb (o := fl (aZ s) 48) (fun i _ => rfl)
    exact .inl ⟨rfl, g1, by have := g1.1; omega, fun f hf _ => g2 f hf⟩
   replace hN := Lib.hid hN
   clear h4 hx hb
   generalize dD (fl (aZ s) 48) = v at *
   go_enter Tryz.func160, Tryz.ntmps160
   go_wp2_with fail
   refine (HC.out _).mono ?_; rintro _ w1 ⟨rfl, hb1⟩
   go_wp2_with fail
   refine (HL.out _).mono ?_; rintro _ w2 ⟨rfl, hb2⟩
   go_wp2_with fail
   go_ret2
   exact ⟨_, _, hN.out, rfl, bt hb1 hb2⟩
 . by_cases c2 : n < 10000
   . have HW : Hid (∀ w, Calls Tryz.prog 198 #[.string s, .int .i64 n] w fun r w' => r = .returned (.bool true) /\ w = w') := Lib.hid (fun w => by
      have := rM s n w h4; rw [decide_eq_true (show 0 <= n by omega), decide_eq_true c2] at this; exact this)
     have HB := Lib.hid (fun w => TG s n w h4 hx (by omega) (by omega))
     clear h4 hx hb
     go_enter Tryz.func160, Tryz.ntmps160
     go_wp2_with fail
     refine (HC.out _).mono ?_; rintro _ w1 ⟨rfl, hb1⟩
     go_wp2_with fail
     refine (HW.out _).mono ?_; rintro _ w2 ⟨rfl, rfl⟩
     go_wp2_with fail
     refine (HB.out _).mono ?_; rintro _ w2 ⟨v, x, hN, rfl, hb2⟩
     replace hN := Lib.hid hN
     go_wp2_with fail
     go_ret2
     exact ⟨_, _, hN.out, rfl, bt hb1 hb2⟩
   . have HW : Hid (∀ w, Calls Tryz.prog 198 #[.string s, .int .i64 n] w fun r w' => r = .returned (.bool false) /\ w = w') := Lib.hid (fun w => by
      have := rM s n w h4; rw [decide_eq_false c2, Bool.and_false] at this; exact this)
     have hN : mM (aZ s) n 0 16 := .inr ⟨rfl, rfl, fun f hf => by have := hf.2.1; omega⟩
     replace hN := Lib.hid hN
     clear h4 hx hb
     go_enter Tryz.func160, Tryz.ntmps160
     go_wp2_with fail
     refine (HC.out _).mono ?_; rintro _ w1 ⟨rfl, hb1⟩
     go_wp2_with fail
     refine (HW.out _).mono ?_; rintro _ w2 ⟨rfl, rfl⟩
     go_wp2_with fail
     go_ret2
     exact ⟨_, _, hN.out, rfl, hb1⟩
theorem NT (s : ByteArray) (n : Int) (w : World) (h4 : s.size = 4) (hx : allB dP s = true) :
 Calls Tryz.prog 161 #[.string s, .int .i64 n] w (aCw (pJ (aZ s) n) w) := by
 have hb := yA h4 hx
 have HC := Lib.hid (fun w => rX s w h4 hx)
 by_cases c : n < 0
 . have hN : pJ (aZ s) n 0 16 := .inr ⟨rfl, rfl, fun f hf => by have := hf.1; omega⟩
   replace hN := Lib.hid hN
   clear h4 hx hb
   go_enter Tryz.func161, Tryz.ntmps161
   go_wp2_with fail
   refine (HC.out _).mono ?_; rintro _ w1 ⟨rfl, hb1⟩
   go_wp2_with fail
   go_ret2
   exact ⟨_, _, hN.out, rfl, hb1⟩
 . by_cases c2 : n < 10000
   . have HW : Hid (∀ w, Calls Tryz.prog 198 #[.string s, .int .i64 n] w fun r w' => r = .returned (.bool true) /\ w = w') := Lib.hid (fun w => by
      have := rM s n w h4; rw [decide_eq_true (show 0 <= n by omega), decide_eq_true c2] at this; exact this)
     have HB := Lib.hid (fun w => TI s n w h4 hx (by omega) (by omega))
     clear h4 hx hb
     go_enter Tryz.func161, Tryz.ntmps161
     go_wp2_with fail
     refine (HC.out _).mono ?_; rintro _ w1 ⟨rfl, hb1⟩
     go_wp2_with fail
     refine (HW.out _).mono ?_; rintro _ w2 ⟨rfl, rfl⟩
     go_wp2_with fail
     refine (HB.out _).mono ?_; rintro _ w2 ⟨v, x, hN, rfl, hb2⟩
     replace hN := Lib.hid hN
     go_wp2_with fail
     go_ret2
     exact ⟨_, _, hN.out, rfl, bt hb1 hb2⟩
   . have HW : Hid (∀ w, Calls Tryz.prog 198 #[.string s, .int .i64 n] w fun r w' => r = .returned (.bool false) /\ w = w') := Lib.hid (fun w => by
      have := rM s n w h4; rw [decide_eq_false c2, Bool.and_false] at this; exact this)
     have HL := Lib.hid (fun w => RN s w h4 hx)
     have hN : pJ (aZ s) n (dD (fl (aZ s) 57)) 0 := by
      obtain ⟨g1, g2⟩ := zQ hb (o := fl (aZ s) 57) (fun i _ => rfl)
      exact .inl ⟨rfl, g1, by have := g1.2.1; omega, fun f hf _ => g2 f hf⟩
     replace hN := Lib.hid hN
     clear h4 hx hb
     generalize dD (fl (aZ s) 57) = v at *
     go_enter Tryz.func161, Tryz.ntmps161
     go_wp2_with fail
     refine (HC.out _).mono ?_; rintro _ w1 ⟨rfl, hb1⟩
     go_wp2_with fail
     refine (HW.out _).mono ?_; rintro _ w2 ⟨rfl, rfl⟩
     go_wp2_with fail
     refine (HL.out _).mono ?_; rintro _ w2 ⟨rfl, hb2⟩
     go_wp2_with fail
     go_ret2
     exact ⟨_, _, hN.out, rfl, bt hb1 hb2⟩
def UpR (b : Nat -> Int) (n least v : Int) (ok : Bool) : Prop := 0 <= v /\ v <= 9999 /\ ((ok = true /\ oC b v /\ n <= v /\ least <= v /\ ∀ f, oC b f -> n <= f -> least <= f -> v <= f) \/ (ok = false /\ ∀ f, oC b f -> least <= f -> f < n))
def DnR (b : Nat -> Int) (n least v : Int) (ok : Bool) : Prop := 0 <= v /\ v <= 9999 /\ ((ok = true /\ oC b v /\ v <= n /\ least <= v /\ ∀ f, oC b f -> f <= n -> f <= v) \/ (ok = false /\ ∀ f, oC b f -> f <= n -> f < least))
def O9 (P : Int -> Bool -> Prop) (w : World) (e : Ending) (w' : World) : Prop := ∃ v x, P v x /\ e = .returned (.tuple #[.int .i64 v, .bool x]) /\ Below w.heap.size w w'
theorem QT (s : ByteArray) (n : Int) (w : World) (h4 : s.size = 4) (hx : allB dP s = true) (n0 : -9223372036854775808 <= n) (n1 : n < 9223372036854775808) :
 Calls Tryz.prog 137 #[.string s, .int .i64 n, .bool true, .int .i64 0] w (O9 (UpR (aZ s) n 0) w) := by
 have HN := Lib.hid (fun w => N8 s (max n 0) w h4 hx)
 have HU : ∀ v x, mM (aZ s) (max n 0) v x -> UpR (aZ s) n 0 v (x == 0) := by
  intro v x h
  obtain ⟨b0, b1, _⟩ := WZ h
  refine ⟨b0, b1, ?_⟩
  rcases h with ⟨rfl, h1, h2, h3⟩ | ⟨rfl, _, h3⟩
  . exact .inl ⟨rfl, h1, by omega, by omega, fun f hf g1 g2 => h3 f hf (by omega)⟩
  . exact .inr ⟨rfl, fun f hf hl => by have := h3 f hf; have := hf.1; omega⟩
 replace HU := Lib.hid HU
 go_enter Tryz.func137, Tryz.ntmps137
 go_wp2_with fail
 refine (HN.out _).mono ?_; rintro _ w1 ⟨v, x, hN, rfl, hb1⟩
 have hR := Lib.hid (HU.out _ _ hN)
 clear hN
 go_wp2_with fail
 go_ret2
 exact ⟨_, _, hR.out, rfl, hb1⟩
theorem QU (s : ByteArray) (n : Int) (w : World) (h4 : s.size = 4) (hx : allB dP s = true) :
 Calls Tryz.prog 137 #[.string s, .int .i64 n, .bool false, .int .i64 1] w (O9 (DnR (aZ s) n 1) w) := by
 have HN := Lib.hid (fun w => NT s n w h4 hx)
 have HU : ∀ v x, pJ (aZ s) n v x -> DnR (aZ s) n 1 v (x == 0 && decide (1 <= v)) := by
  intro v x h
  obtain ⟨b0, b1, _⟩ := y9 h
  refine ⟨b0, b1, ?_⟩
  rcases h with ⟨rfl, h1, h2, h3⟩ | ⟨rfl, _, h3⟩
  . by_cases c : 1 <= v
    . exact .inl ⟨by rw [decide_eq_true c]; rfl, h1, h2, c, h3⟩
    . exact .inr ⟨by rw [decide_eq_false c]; rfl, fun f hf hl => by have := h3 f hf hl; omega⟩
  . exact .inr ⟨rfl, fun f hf hl => by have := h3 f hf; omega⟩
 replace HU := Lib.hid HU
 go_enter Tryz.func137, Tryz.ntmps137
 go_wp2_with fail
 refine (HN.out _).mono ?_; rintro _ w1 ⟨v, x, hN, rfl, hb1⟩
 have hR := HU.out _ _ hN
 have hx2 := (y9 hN).2.2
 clear hN
 rcases hx2 with rfl | rfl
 . have hR2 := Lib.hid (show DnR (aZ s) n 1 v (decide (1 <= v)) by rw [show ((0 : Int) == 0) = true from rfl, Bool.true_and] at hR; exact hR)
   clear hR
   go_wp2_with fail
   go_ret2
   exact ⟨_, _, hR2.out, rfl, hb1⟩
 . have hR2 := Lib.hid (show DnR (aZ s) n 1 v false by rw [show ((16 : Int) == 0) = false from rfl, Bool.false_and] at hR; exact hR)
   clear hR
   go_wp2_with fail
   go_ret2
   exact ⟨_, _, hR2.out, rfl, hb1⟩
end Bk
end
section
open Go.RowKit
namespace Un
open Cal
def rv (a lo b hi : Int) : Value := .agg #[.int .i8 a, .int .i64 lo, .int .i8 b, .int .i64 hi]
theorem fJ (lo e hi f : Int) (w : World) :
 Calls Tryz.prog 176 #[.int .i64 lo, .int .i64 e, .int .i64 hi, .int .i64 f] w fun r w' => r = .returned (.tuple #[.int .i64 (if e = 0 then (if f = 0 then lo else 0) else 0), .int .i64 (if e = 0 then (if f = 0 then hi else 0) else 0), .int .i64 (if e = 0 then f else e)]) /\ w = w' := by
 by_cases he : e = 0
 . subst he
   by_cases hf : f = 0
   . subst hf
     go_enter Tryz.func176, Tryz.ntmps176
     go_wp2
     go_ret3
     exact ⟨fQ (by simp) (by simp) (by simp), rfl⟩
   . have t : (f != 0) = true := by rw [bne_iff_ne]; exact hf
     have HF := Lib.hid hf; clear hf
     go_enter Tryz.func176, Tryz.ntmps176
     go_wp2
     go_ret3
     exact ⟨fQ (by simp [HF.out]) (by simp [HF.out]) (by simp), rfl⟩
 . have t : (e != 0) = true := by rw [bne_iff_ne]; exact he
   have HE := Lib.hid he; clear he
   go_enter Tryz.func176, Tryz.ntmps176
   go_wp2
   go_ret3
   exact ⟨fQ (by simp [HE.out]) (by simp [HE.out]) (by simp [HE.out]), rfl⟩
theorem yR (lo hi e : Int) (w : World) :
 Calls Tryz.prog 119 #[.int .i64 lo, .int .i64 hi, .int .i64 e] w fun r w' => r = .returned (.tuple #[if e = 0 then rv 0 lo 0 hi else rv 0 0 0 0, .int .i64 e]) /\ Below w.heap.size w w' := by
 by_cases he : e = 0
 . subst he
   go_enter Tryz.func119, Tryz.ntmps119
   go_wp2
   refine bodyPost_ret (v := .tuple #[rv 0 lo 0 hi, .int .i64 0]) (by simp [results, Tryz.results119, go_sem, rv]) rfl ⟨by simp, ba (Below.refl _ _) _⟩
 . have t : (e != 0) = true := by rw [bne_iff_ne]; exact he
   have HE := Lib.hid he; clear he
   go_enter Tryz.func119, Tryz.ntmps119
   go_wp2
   refine bodyPost_ret (v := .tuple #[rv 0 0 0 0, .int .i64 e]) (by simp [results, Tryz.results119, go_sem, rv]) rfl ⟨by simp [HE.out], ba (Below.refl _ _) _⟩
theorem lK (y : Int) (w : World) (hs : eU w) :
 Calls Tryz.prog 141 #[.int .i64 y] w fun r w' => r = .returned (.tuple #[.int .i64 (if -10000000000000000 <= y /\ y <= 10000000000000000 then st y else 0), .int .i64 (if -10000000000000000 <= y /\ y <= 10000000000000000 then st (y + 1) - 1 else 0), .int .i64 (if -10000000000000000 <= y /\ y <= 10000000000000000 then 0 else 6)]) /\ Below w.heap.size w w' := by
 by_cases c : -10000000000000000 <= y /\ y <= 10000000000000000
 . rw [if_pos c, if_pos c, if_pos c]
   obtain ⟨c0, c1⟩ := c
   go_enter Tryz.func141, Tryz.ntmps141
   go_wp2_with fail
   refine (qK _ _ hs.steps (by omega) (by omega)).mono ?_; rintro e w1 ⟨rfl, hb1⟩
   go_wp2_with fail
   refine (UC _ _ (hs.below hb1).steps (by omega) (by omega)).mono ?_; rintro e w2 ⟨rfl, hb2⟩
   go_wp2_with (go_at_call 176; refine (fJ _ _ _ _ _).mono ?_; rintro e w' ⟨rfl, rfl⟩)
   go_ret3
   exact ⟨fQ (by simp) (by simp) (by simp), bt hb1 hb2⟩
 . rw [if_neg c, if_neg c, if_neg c]
   have C : Hid (y < -10000000000000000 \/ 10000000000000000 < y) := Lib.hid (by omega)
   clear c
   go_enter Tryz.func141, Tryz.ntmps141
   go_wp2_with (first | (go_at_call 174; refine (LH _ _ C.out).mono ?_; rintro e w' ⟨rfl, rfl⟩) | (go_at_call 175; refine (UD _ _ C.out).mono ?_; rintro e w' ⟨rfl, rfl⟩) | (go_at_call 176; refine (fJ _ _ _ _ _).mono ?_; rintro e w' ⟨rfl, rfl⟩))
   go_ret3
   exact ⟨fQ (by simp) (by simp) (by simp), Below.refl _ _⟩
def uV (i : Int) : Int × Int × Int := if -10000000000000000 <= i / 12 /\ i / 12 <= 10000000000000000 then (st (i / 12) + dW (i / 12) (i % 12 + 1), st (i / 12) + dW (i / 12) (i % 12 + 2) - 1, 0) else (0, 0, 6)
theorem aCQ (y m : Int) (m0 : 1 <= m) (m1 : m <= 12) :
 ∃ sv ev er : Int, (∀ W, eU W -> Calls Tryz.prog 157 #[.int .i64 y, .int .i64 m] W fun e w' => e = .returned (.tuple #[.int .i64 sv, .int .i64 er]) /\ Below W.heap.size W w') /\
  (∀ W, eU W -> Calls Tryz.prog 159 #[.int .i64 y, .int .i64 m] W fun e w' => e = .returned (.tuple #[.int .i64 ev, .int .i64 er]) /\ Below W.heap.size W w') /\
  ((er = 0 /\ (if -10000000000000000 <= y /\ y <= 10000000000000000 then (st y + dW y m, st y + dW y (m + 1) - 1, (0 : Int)) else (0, 0, 6)) = (sv, ev, 0)) \/ (er = 6 /\ (if -10000000000000000 <= y /\ y <= 10000000000000000 then (st y + dW y m, st y + dW y (m + 1) - 1, (0 : Int)) else (0, 0, 6)) = (0, 0, 6))) := by
 by_cases c : -10000000000000000 <= y /\ y <= 10000000000000000
 . exact ⟨_, _, 0, fun W h => jG y m W h c.1 c.2 m0 m1, fun W h => zJ y m W h c.1 c.2 m0 m1, Or.inl ⟨rfl, by rw [if_pos c]⟩⟩
 . have e : rC y m = 6 := by unfold rC; rw [if_neg c]
   refine ⟨0, 0, 6, fun W h => (uU y m W (by rw [e]; decide)).mono fun r w' ⟨h1, h2⟩ => ⟨by rw [h1, e], by rw [<- h2]; exact Below.refl _ _⟩, fun W h => (QK y m W (by rw [e]; decide)).mono fun r w' ⟨h1, h2⟩ => ⟨by rw [h1, e], by rw [<- h2]; exact Below.refl _ _⟩, Or.inr ⟨rfl, by rw [if_neg c]⟩⟩
theorem JH (i sv ev er : Int) (w : World) (hs : eU w) (h0 : -9223372036854775808 <= i) (h1 : i < 9223372036854775808)
 (HS : ∀ W, eU W -> Calls Tryz.prog 157 #[.int .i64 (i / 12), .int .i64 (i % 12 + 1)] W fun e w' => e = .returned (.tuple #[.int .i64 sv, .int .i64 er]) /\ Below W.heap.size W w')
 (HE : ∀ W, eU W -> Calls Tryz.prog 159 #[.int .i64 (i / 12), .int .i64 (i % 12 + 1)] W fun e w' => e = .returned (.tuple #[.int .i64 ev, .int .i64 er]) /\ Below W.heap.size W w') (hz : er = 0 \/ er = 6) :
 Calls Tryz.prog 144 #[.int .i64 i] w fun r w' => r = .returned (.tuple #[.int .i64 (if er = 0 then sv else 0), .int .i64 (if er = 0 then ev else 0), .int .i64 er]) /\ Below w.heap.size w w' := by
 obtain ⟨c1, c2, c3⟩ := @wM i 12 (by omega)
 have HW := Lib.hid hs; clear hs
 by_cases hi : 0 <= i
 . have t : ¬ i % 12 < 0 := by omega
   have HS := Lib.hid HS; have HE := Lib.hid HE
   clear c1 c2 c3
   rcases hz with rfl | rfl
   . go_enter Tryz.func144, Tryz.ntmps144
     go_wp2_with fail
     refine (HS.out _ HW.out).mono ?_; rintro e w1 ⟨rfl, hb1⟩
     go_wp2_with fail
     refine (HE.out _ (HW.out.below hb1)).mono ?_; rintro e w2 ⟨rfl, hb2⟩
     go_wp2_with (go_at_call 176; refine (fJ _ _ _ _ _).mono ?_; rintro e w' ⟨rfl, rfl⟩)
     go_ret3
     exact ⟨fQ (by simp) (by simp) (by simp), bt hb1 hb2⟩
   . go_enter Tryz.func144, Tryz.ntmps144
     go_wp2_with fail
     refine (HS.out _ HW.out).mono ?_; rintro e w1 ⟨rfl, hb1⟩
     go_wp2_with fail
     refine (HE.out _ (HW.out.below hb1)).mono ?_; rintro e w2 ⟨rfl, hb2⟩
     go_wp2_with (go_at_call 176; refine (fJ _ _ _ _ _).mono ?_; rintro e w' ⟨rfl, rfl⟩)
     go_ret3
     exact ⟨fQ (by simp) (by simp) (by simp), bt hb1 hb2⟩
 . by_cases hz' : i.tmod 12 = 0
   . obtain ⟨e1, e2⟩ := c2 (Or.inl hz')
     have t : decide (i.tmod 12 < 0) = false := decide_eq_false (by omega)
     have k0 : -768614336404564652 <= i.tdiv 12 := by omega
     have k1 : i.tdiv 12 <= 768614336404564651 := by omega
     rw [<- e1, <- e2] at HS HE
     have k2 : -12 <= i.tmod 12 := by omega
     have k3 : i.tmod 12 < 12 := by omega
     have HS := Lib.hid HS; have HE := Lib.hid HE
     clear c1 c2 c3 hz' e1 e2
     rcases hz with rfl | rfl
     . go_enter Tryz.func144, Tryz.ntmps144
       go_wp2_with fail
       refine (HS.out _ HW.out).mono ?_; rintro e w1 ⟨rfl, hb1⟩
       go_wp2_with fail
       refine (HE.out _ (HW.out.below hb1)).mono ?_; rintro e w2 ⟨rfl, hb2⟩
       go_wp2_with (go_at_call 176; refine (fJ _ _ _ _ _).mono ?_; rintro e w' ⟨rfl, rfl⟩)
       go_ret3
       exact ⟨fQ (by simp) (by simp) (by simp), bt hb1 hb2⟩
     . go_enter Tryz.func144, Tryz.ntmps144
       go_wp2_with fail
       refine (HS.out _ HW.out).mono ?_; rintro e w1 ⟨rfl, hb1⟩
       go_wp2_with fail
       refine (HE.out _ (HW.out.below hb1)).mono ?_; rintro e w2 ⟨rfl, hb2⟩
       go_wp2_with (go_at_call 176; refine (fJ _ _ _ _ _).mono ?_; rintro e w' ⟨rfl, rfl⟩)
       go_ret3
       exact ⟨fQ (by simp) (by simp) (by simp), bt hb1 hb2⟩
   . obtain ⟨e1, e2⟩ := c1 ⟨hz', by omega⟩
     have hneg := (c3 hz').2 (by omega)
     have t : decide (i.tmod 12 < 0) = true := decide_eq_true hneg
     have k0 : -768614336404564651 <= i.tdiv 12 := by omega
     have k1 : i.tdiv 12 <= 768614336404564651 := by omega
     rw [<- e1, <- e2] at HS HE
     have k2 : -12 <= i.tmod 12 := by omega
     have k3 : i.tmod 12 < 12 := by omega
     have HS := Lib.hid HS; have HE := Lib.hid HE
     clear c1 c2 c3 hz' e1 e2
     rcases hz with rfl | rfl
     . go_enter Tryz.func144, Tryz.ntmps144
       go_wp2_with fail
       refine (HS.out _ HW.out).mono ?_; rintro e w1 ⟨rfl, hb1⟩
       go_wp2_with fail
       refine (HE.out _ (HW.out.below hb1)).mono ?_; rintro e w2 ⟨rfl, hb2⟩
       go_wp2_with (go_at_call 176; refine (fJ _ _ _ _ _).mono ?_; rintro e w' ⟨rfl, rfl⟩)
       go_ret3
       exact ⟨fQ (by simp) (by simp) (by simp), bt hb1 hb2⟩
     . go_enter Tryz.func144, Tryz.ntmps144
       go_wp2_with fail
       refine (HS.out _ HW.out).mono ?_; rintro e w1 ⟨rfl, hb1⟩
       go_wp2_with fail
       refine (HE.out _ (HW.out.below hb1)).mono ?_; rintro e w2 ⟨rfl, hb2⟩
       go_wp2_with (go_at_call 176; refine (fJ _ _ _ _ _).mono ?_; rintro e w' ⟨rfl, rfl⟩)
       go_ret3
       exact ⟨fQ (by simp) (by simp) (by simp), bt hb1 hb2⟩
theorem kN (i : Int) (w : World) (hs : eU w) (h0 : -9223372036854775808 <= i) (h1 : i < 9223372036854775808) :
 Calls Tryz.prog 144 #[.int .i64 i] w fun r w' => r = .returned (.tuple #[.int .i64 (uV i).1, .int .i64 (uV i).2.1, .int .i64 (uV i).2.2]) /\ Below w.heap.size w w' := by
 obtain ⟨sv, ev, er, HS, HE, HR⟩ := aCQ (i / 12) (i % 12 + 1) (by omega) (by omega)
 rw [show i % 12 + 1 + 1 = i % 12 + 2 by omega] at HR
 unfold uV
 rcases HR with ⟨he, hC⟩ | ⟨he, hC⟩
 . rw [hC]
   have h := JH i sv ev er w hs h0 h1 HS HE (Or.inl he)
   rw [if_pos he, if_pos he, he] at h; exact h
 . rw [hC]
   have h := JH i sv ev er w hs h0 h1 HS HE (Or.inr he)
   rw [if_neg (by omega), if_neg (by omega), he] at h; exact h
end Un
end
section
open Go.RowKit
namespace Un
open Cal
theorem fP (p : Int) (w : World) (h0 : 0 <= p) (h1 : p < 256) :
 Calls Tryz.prog 117 #[.int .u8 p] w fun r w' => r = .returned (.bool (decide (1 <= p /\ p <= 3))) /\ w = w' := by
 by_cases a : 1 <= p
 . go_enter Tryz.func117, Tryz.ntmps117
   go_wp2
   go_ret
   exact ⟨by simp [a], rfl⟩
 . have b : p < 1 := by omega
   have e : p = 0 := by omega
   subst e
   go_enter Tryz.func117, Tryz.ntmps117
   go_wp2
   go_ret
   exact ⟨by simp, rfl⟩
theorem aAE (d : Int) (w : World) :
 Calls Tryz.prog 145 #[.int .i64 d] w fun r w' => r = .returned (.tuple #[.int .i64 d, .int .i64 0]) /\ w = w' := by
 go_enter Tryz.func145, Tryz.ntmps145
 go_wp2
 go_ret2
 exact ⟨aX rfl rfl, rfl⟩
theorem aAD (d : Int) (w : World) :
 Calls Tryz.prog 146 #[.int .i64 d] w fun r w' => r = .returned (.tuple #[.int .i64 d, .int .i64 d, .int .i64 0]) /\ w = w' := by
 go_enter Tryz.func146, Tryz.ntmps146
 go_wp2
 go_ret3
 exact ⟨fQ rfl rfl rfl, rfl⟩
def kD : Value := .agg #[.nilFunc, .nilFunc, .func (.func 140) #[] #[], .func (.func 141) #[] #[], .func (.func 142) #[] #[], .func (.func 144) #[] #[], .func (.func 145) #[] #[], .func (.func 146) #[] #[]]
theorem nV (w : World) :
 Calls Tryz.prog 118 #[] w fun r w' => r = .returned kD /\ Below w.heap.size w w' := by
 go_enter Tryz.func118, Tryz.ntmps118
 go_wp2
 refine bodyPost_ret (v := kD) (by simp [results, Tryz.results118, go_sem, kD]) rfl ⟨rfl, ba (Below.refl _ _) _⟩
theorem D6 (d : Int) : -10000000000000000 <= (dN d).1 /\ (dN d).1 <= 10000000000000000 /\ 0 <= (dN d).2.1 /\ (dN d).2.1 <= 12 := by
 unfold dN
 split
 . next h =>
   obtain ⟨s1, s2⟩ := iE d
   have := @oN (dU d) (d - st (dU d)) (by omega) (by have := st_succ (dU d); omega)
   exact ⟨h.1, h.2, by dsimp only; omega, by dsimp only; omega⟩
 . decide
theorem aAF (d : Int) (w : World) (hs : eU w) (h0 : -9223372036854775808 <= d) (h1 : d < 9223372036854775808) :
 Calls Tryz.prog 142 #[.int .i64 d] w fun r w' => r = .returned (.tuple #[.int .i64 (12 * (dN d).1 + (dN d).2.1 - 1), .int .i64 (dN d).2.2]) /\ Below w.heap.size w w' := by
 have HY := Lib.hid (rU d w hs h0 h1)
 clear hs
 have hk := D6 d
 generalize dN d = q at HY hk ⊢
 obtain ⟨y, m, e⟩ := q
 obtain ⟨k0, k1, k2, k3⟩ := hk
 dsimp only at k0 k1 k2 k3 ⊢
 go_enter Tryz.func142, Tryz.ntmps142
 go_wp2_with fail
 refine HY.out.mono ?_; rintro e w1 ⟨rfl, hb1⟩
 go_wp2
 go_ret2
 exact ⟨aX (by simp) rfl, hb1⟩
theorem aGI (w : World) : (Instr.index 163 kD (.int .u8 1)).run Tryz.prog w = .ok (.agg #[.func (.func 140) #[] #[], .func (.func 141) #[] #[]]) w := by kernel_rfl
theorem aGH (w : World) : (Instr.index 163 kD (.int .u8 2)).run Tryz.prog w = .ok (.agg #[.func (.func 142) #[] #[], .func (.func 144) #[] #[]]) w := by kernel_rfl
theorem aGG (w : World) : (Instr.index 163 kD (.int .u8 3)).run Tryz.prog w = .ok (.agg #[.func (.func 145) #[] #[], .func (.func 146) #[] #[]]) w := by kernel_rfl
theorem qM (lo hi e : Int) (w : World) :
 Calls Tryz.prog 119 #[.int .i64 lo, .int .i64 hi, .int .i64 e] w fun r w' => r = .returned (.tuple #[.agg #[.int .i8 0, .int .i64 (if e = 0 then lo else 0), .int .i8 0, .int .i64 (if e = 0 then hi else 0)], .int .i64 e]) /\ Below w.heap.size w w' := by
 refine (yR lo hi e w).mono fun r w' ⟨h1, h2⟩ => ⟨?_, h2⟩
 rw [h1]
 by_cases he : e = 0
 . rw [if_pos he, if_pos he, if_pos he]; rfl
 . rw [if_neg he, if_neg he, if_neg he]; rfl
theorem fM {w W : World} {a lo b hi : Value} {t : TypeId} (h : Below (w.alloc (.cells #[a, lo, b, hi] t)).heap.size (w.alloc (.cells #[a, lo, b, hi] t)) W) :
 W.cell? ⟨w.heap.size, 0, none⟩ = some a /\ W.cell? ⟨w.heap.size, 1, none⟩ = some lo /\ W.cell? ⟨w.heap.size, 2, none⟩ = some b /\ W.cell? ⟨w.heap.size, 3, none⟩ = some hi /\
 W.frozen? ⟨w.heap.size, 0, none⟩ = false /\ W.frozen? ⟨w.heap.size, 1, none⟩ = false /\ W.frozen? ⟨w.heap.size, 2, none⟩ = false /\ W.frozen? ⟨w.heap.size, 3, none⟩ = false := by
 refine ⟨?_, ?_, ?_, ?_, ?_, ?_, ?_, ?_⟩
 . rw [h.cell (by simp)]; simp [go_sem]
 . rw [h.cell (by simp)]; simp [go_sem]
 . rw [h.cell (by simp)]; simp [go_sem]
 . rw [h.cell (by simp)]; simp [go_sem]
 . rw [h.frozen (by simp)]; simp [go_sem]
 . rw [h.frozen (by simp)]; simp [go_sem]
 . rw [h.frozen (by simp)]; simp [go_sem]
 . rw [h.frozen (by simp)]; simp [go_sem]
theorem MK (d i e lo hi f : Int) (w : World) (hs : eU w)
 (HI : ∀ W, eU W -> Calls Tryz.prog 140 #[.int .i64 d] W fun r w' => r = .returned (.tuple #[.int .i64 i, .int .i64 e]) /\ Below W.heap.size W w')
 (HA : ∀ W, eU W -> Calls Tryz.prog 141 #[.int .i64 i] W fun r w' => r = .returned (.tuple #[.int .i64 lo, .int .i64 hi, .int .i64 f]) /\ Below W.heap.size W w') :
 Calls Tryz.prog 85 #[.int .i64 d, .int .u8 1] w fun r w' => r = .returned (.tuple #[rv 0 (if e = 0 then (if f = 0 then lo else 0) else 0) 0 (if e = 0 then (if f = 0 then hi else 0) else 0), .int .i64 (if e = 0 then f else e)]) /\ Below w.heap.size w w' := by
 replace HI := Lib.hid HI
 replace HA := Lib.hid HA
 have HS := Lib.hid hs; clear hs
 have K := aGI
 unfold kD at K
 by_cases he : e = 0
 . subst he
   rw [if_pos rfl, if_pos rfl, if_pos rfl]
   have HR := fun W => qM lo hi f W
   generalize (if f = 0 then lo else 0) = L at HR ⊢
   generalize (if f = 0 then hi else 0) = H at HR ⊢
   replace HR := Lib.hid HR
   go_enter Tryz.func85, Tryz.ntmps85
   go_wp2_with (first | (go_at_call 117; refine (fP _ _ (by omega) (by omega)).mono ?_; rintro e w' ⟨rfl, rfl⟩))
   refine (nV _).mono ?_; rintro e w1 ⟨rfl, hb1⟩
   unfold kD
   go_wp2_with fail
   have c1 : eU (w1.alloc (.cells #[.func (.func 140) #[] #[], .func (.func 141) #[] #[]] 162)) := HS.out.below (ba (bt (ba (Below.refl _ _) _) hb1) _)
   refine (HI.out _ c1).mono ?_; rintro e w2 ⟨rfl, hb2⟩
   have r1 : w2.cell? ⟨w1.heap.size, 1, none⟩ = some (.func (.func 141) #[] #[]) := by
    rw [hb2.cell (by simp)]; simp [go_sem]
   go_wp2_with fail
   refine (HA.out _ (c1.below hb2)).mono ?_; rintro e w3 ⟨rfl, hb3⟩
   go_wp2_with fail
   refine (HR.out _).mono ?_; rintro e w4 ⟨rfl, hb4⟩
   have hB := bt (bt (bt (ba hb1 _) hb2) hb3) hb4
   obtain ⟨q0, q1, q2, q3, z0, z1, z2, z3⟩ := fM hB
   go_wp2_with fail
   refine bodyPost_ret (v := .tuple #[rv 0 L 0 H, .int .i64 f]) (by simp [results, Tryz.results85, go_sem, rv, q0, q1, q2, q3]) rfl ⟨rfl, ?_⟩
   exact ((((bt (ba (Below.refl _ _) _) hB).setCell (Nat.le_refl _) _).setCell (Nat.le_refl _) _).setCell (Nat.le_refl _) _).setCell (Nat.le_refl _) _
 . have t : (e != 0) = true := by rw [bne_iff_ne]; exact he
   rw [if_neg he, if_neg he, if_neg he]
   go_enter Tryz.func85, Tryz.ntmps85
   go_wp2_with (first | (go_at_call 117; refine (fP _ _ (by omega) (by omega)).mono ?_; rintro e w' ⟨rfl, rfl⟩))
   refine (nV _).mono ?_; rintro _ w1 ⟨rfl, hb1⟩
   unfold kD
   go_wp2_with fail
   have c1 : eU (w1.alloc (.cells #[.func (.func 140) #[] #[], .func (.func 141) #[] #[]] 162)) := HS.out.below (ba (bt (ba (Below.refl _ _) _) hb1) _)
   refine (HI.out _ c1).mono ?_; rintro _ w2 ⟨rfl, hb2⟩
   replace he := Lib.hid he
   have hB := bt (ba hb1 _) hb2
   obtain ⟨q0, q1, q2, q3, z0, z1, z2, z3⟩ := fM hB
   go_wp2_with fail
   refine bodyPost_ret (v := .tuple #[rv 0 0 0 0, .int .i64 e]) (by simp [results, Tryz.results85, go_sem, rv, q0, q1, q2, q3]) rfl ⟨rfl, ?_⟩
   exact ((((bt (ba (Below.refl _ _) _) hB).setCell (Nat.le_refl _) _).setCell (Nat.le_refl _) _).setCell (Nat.le_refl _) _).setCell (Nat.le_refl _) _
theorem MJ (d i e lo hi f : Int) (w : World) (hs : eU w)
 (HI : ∀ W, eU W -> Calls Tryz.prog 142 #[.int .i64 d] W fun r w' => r = .returned (.tuple #[.int .i64 i, .int .i64 e]) /\ Below W.heap.size W w')
 (HA : ∀ W, eU W -> Calls Tryz.prog 144 #[.int .i64 i] W fun r w' => r = .returned (.tuple #[.int .i64 lo, .int .i64 hi, .int .i64 f]) /\ Below W.heap.size W w') :
 Calls Tryz.prog 85 #[.int .i64 d, .int .u8 2] w fun r w' => r = .returned (.tuple #[rv 0 (if e = 0 then (if f = 0 then lo else 0) else 0) 0 (if e = 0 then (if f = 0 then hi else 0) else 0), .int .i64 (if e = 0 then f else e)]) /\ Below w.heap.size w w' := by
 replace HI := Lib.hid HI
 replace HA := Lib.hid HA
 have HS := Lib.hid hs; clear hs
 have K := aGH
 unfold kD at K
 by_cases he : e = 0
 . subst he
   rw [if_pos rfl, if_pos rfl, if_pos rfl]
   have HR := fun W => qM lo hi f W
   generalize (if f = 0 then lo else 0) = L at HR ⊢
   generalize (if f = 0 then hi else 0) = H at HR ⊢
   replace HR := Lib.hid HR
   go_enter Tryz.func85, Tryz.ntmps85
   go_wp2_with (first | (go_at_call 117; refine (fP _ _ (by omega) (by omega)).mono ?_; rintro e w' ⟨rfl, rfl⟩))
   refine (nV _).mono ?_; rintro e w1 ⟨rfl, hb1⟩
   unfold kD
   go_wp2_with fail
   have c1 : eU (w1.alloc (.cells #[.func (.func 142) #[] #[], .func (.func 144) #[] #[]] 162)) := HS.out.below (ba (bt (ba (Below.refl _ _) _) hb1) _)
   refine (HI.out _ c1).mono ?_; rintro e w2 ⟨rfl, hb2⟩
   have r1 : w2.cell? ⟨w1.heap.size, 1, none⟩ = some (.func (.func 144) #[] #[]) := by
    rw [hb2.cell (by simp)]; simp [go_sem]
   go_wp2_with fail
   refine (HA.out _ (c1.below hb2)).mono ?_; rintro e w3 ⟨rfl, hb3⟩
   go_wp2_with fail
   refine (HR.out _).mono ?_; rintro e w4 ⟨rfl, hb4⟩
   have hB := bt (bt (bt (ba hb1 _) hb2) hb3) hb4
   obtain ⟨q0, q1, q2, q3, z0, z1, z2, z3⟩ := fM hB
   go_wp2_with fail
   refine bodyPost_ret (v := .tuple #[rv 0 L 0 H, .int .i64 f]) (by simp [results, Tryz.results85, go_sem, rv, q0, q1, q2, q3]) rfl ⟨rfl, ?_⟩
   exact ((((bt (ba (Below.refl _ _) _) hB).setCell (Nat.le_refl _) _).setCell (Nat.le_refl _) _).setCell (Nat.le_refl _) _).setCell (Nat.le_refl _) _
 . have t : (e != 0) = true := by rw [bne_iff_ne]; exact he
   rw [if_neg he, if_neg he, if_neg he]
   go_enter Tryz.func85, Tryz.ntmps85
   go_wp2_with (first | (go_at_call 117; refine (fP _ _ (by omega) (by omega)).mono ?_; rintro e w' ⟨rfl, rfl⟩))
   refine (nV _).mono ?_; rintro _ w1 ⟨rfl, hb1⟩
   unfold kD
   go_wp2_with fail
   have c1 : eU (w1.alloc (.cells #[.func (.func 142) #[] #[], .func (.func 144) #[] #[]] 162)) := HS.out.below (ba (bt (ba (Below.refl _ _) _) hb1) _)
   refine (HI.out _ c1).mono ?_; rintro _ w2 ⟨rfl, hb2⟩
   replace he := Lib.hid he
   have hB := bt (ba hb1 _) hb2
   obtain ⟨q0, q1, q2, q3, z0, z1, z2, z3⟩ := fM hB
   go_wp2_with fail
   refine bodyPost_ret (v := .tuple #[rv 0 0 0 0, .int .i64 e]) (by simp [results, Tryz.results85, go_sem, rv, q0, q1, q2, q3]) rfl ⟨rfl, ?_⟩
   exact ((((bt (ba (Below.refl _ _) _) hB).setCell (Nat.le_refl _) _).setCell (Nat.le_refl _) _).setCell (Nat.le_refl _) _).setCell (Nat.le_refl _) _
theorem MI (d i e lo hi f : Int) (w : World) (hs : eU w)
 (HI : ∀ W, eU W -> Calls Tryz.prog 145 #[.int .i64 d] W fun r w' => r = .returned (.tuple #[.int .i64 i, .int .i64 e]) /\ Below W.heap.size W w')
 (HA : ∀ W, eU W -> Calls Tryz.prog 146 #[.int .i64 i] W fun r w' => r = .returned (.tuple #[.int .i64 lo, .int .i64 hi, .int .i64 f]) /\ Below W.heap.size W w') :
 Calls Tryz.prog 85 #[.int .i64 d, .int .u8 3] w fun r w' => r = .returned (.tuple #[rv 0 (if e = 0 then (if f = 0 then lo else 0) else 0) 0 (if e = 0 then (if f = 0 then hi else 0) else 0), .int .i64 (if e = 0 then f else e)]) /\ Below w.heap.size w w' := by
 replace HI := Lib.hid HI
 replace HA := Lib.hid HA
 have HS := Lib.hid hs; clear hs
 have K := aGG
 unfold kD at K
 by_cases he : e = 0
 . subst he
   rw [if_pos rfl, if_pos rfl, if_pos rfl]
   have HR := fun W => qM lo hi f W
   generalize (if f = 0 then lo else 0) = L at HR ⊢
   generalize (if f = 0 then hi else 0) = H at HR ⊢
   replace HR := Lib.hid HR
   go_enter Tryz.func85, Tryz.ntmps85
   go_wp2_with (first | (go_at_call 117; refine (fP _ _ (by omega) (by omega)).mono ?_; rintro e w' ⟨rfl, rfl⟩))
   refine (nV _).mono ?_; rintro e w1 ⟨rfl, hb1⟩
   unfold kD
   go_wp2_with fail
   have c1 : eU (w1.alloc (.cells #[.func (.func 145) #[] #[], .func (.func 146) #[] #[]] 162)) := HS.out.below (ba (bt (ba (Below.refl _ _) _) hb1) _)
   refine (HI.out _ c1).mono ?_; rintro e w2 ⟨rfl, hb2⟩
   have r1 : w2.cell? ⟨w1.heap.size, 1, none⟩ = some (.func (.func 146) #[] #[]) := by
    rw [hb2.cell (by simp)]; simp [go_sem]
   go_wp2_with fail
   refine (HA.out _ (c1.below hb2)).mono ?_; rintro e w3 ⟨rfl, hb3⟩
   go_wp2_with fail
   refine (HR.out _).mono ?_; rintro e w4 ⟨rfl, hb4⟩
   have hB := bt (bt (bt (ba hb1 _) hb2) hb3) hb4
   obtain ⟨q0, q1, q2, q3, z0, z1, z2, z3⟩ := fM hB
   go_wp2_with fail
   refine bodyPost_ret (v := .tuple #[rv 0 L 0 H, .int .i64 f]) (by simp [results, Tryz.results85, go_sem, rv, q0, q1, q2, q3]) rfl ⟨rfl, ?_⟩
   exact ((((bt (ba (Below.refl _ _) _) hB).setCell (Nat.le_refl _) _).setCell (Nat.le_refl _) _).setCell (Nat.le_refl _) _).setCell (Nat.le_refl _) _
 . have t : (e != 0) = true := by rw [bne_iff_ne]; exact he
   rw [if_neg he, if_neg he, if_neg he]
   go_enter Tryz.func85, Tryz.ntmps85
   go_wp2_with (first | (go_at_call 117; refine (fP _ _ (by omega) (by omega)).mono ?_; rintro e w' ⟨rfl, rfl⟩))
   refine (nV _).mono ?_; rintro _ w1 ⟨rfl, hb1⟩
   unfold kD
   go_wp2_with fail
   have c1 : eU (w1.alloc (.cells #[.func (.func 145) #[] #[], .func (.func 146) #[] #[]] 162)) := HS.out.below (ba (bt (ba (Below.refl _ _) _) hb1) _)
   refine (HI.out _ c1).mono ?_; rintro _ w2 ⟨rfl, hb2⟩
   replace he := Lib.hid he
   have hB := bt (ba hb1 _) hb2
   obtain ⟨q0, q1, q2, q3, z0, z1, z2, z3⟩ := fM hB
   go_wp2_with fail
   refine bodyPost_ret (v := .tuple #[rv 0 0 0 0, .int .i64 e]) (by simp [results, Tryz.results85, go_sem, rv, q0, q1, q2, q3]) rfl ⟨rfl, ?_⟩
   exact ((((bt (ba (Below.refl _ _) _) hB).setCell (Nat.le_refl _) _).setCell (Nat.le_refl _) _).setCell (Nat.le_refl _) _).setCell (Nat.le_refl _) _
def oW (p d : Int) : Int × Int × Int := if p = 3 then (d, d, 0) else if -10000000000000000 <= dU d /\ dU d <= 10000000000000000 then (if p = 1 then (st (dU d), st (dU d + 1) - 1, 0) else (st (dU d) + dW (dU d) (LW (dU d) (d - st (dU d))), st (dU d) + dW (dU d) (LW (dU d) (d - st (dU d)) + 1) - 1, 0)) else (0, 0, 6)
theorem RG (d : Int) (w : World) (hs : eU w) :
 Calls Tryz.prog 85 #[.int .i64 d, .int .u8 3] w fun r w' => r = .returned (.tuple #[rv 0 d 0 d, .int .i64 0]) /\ Below w.heap.size w w' :=
 MI d d 0 d d 0 w hs (fun W _ => (aAE d W).mono fun r w' ⟨h1, h2⟩ => ⟨h1, by rw [<- h2]; exact Below.refl _ _⟩) (fun W _ => (aAD d W).mono fun r w' ⟨h1, h2⟩ => ⟨h1, by rw [<- h2]; exact Below.refl _ _⟩)
theorem RI (d : Int) (w : World) (hs : eU w) (h0 : -9223372036854775808 <= d) (h1 : d < 9223372036854775808) :
 Calls Tryz.prog 85 #[.int .i64 d, .int .u8 1] w fun r w' => r = .returned (.tuple #[rv 0 (oW 1 d).1 0 (oW 1 d).2.1, .int .i64 (oW 1 d).2.2]) /\ Below w.heap.size w w' := by
 have h := MK d _ _ _ _ _ w hs (fun W c => xK d W c.steps h0 h1) (fun W c => lK _ W c)
 refine h.mono fun r w' ⟨e, b⟩ => ⟨?_, b⟩
 rw [e]
 unfold oW mZ
 by_cases c : -10000000000000000 <= dU d /\ dU d <= 10000000000000000
 . simp [c]
 . simp [c]
theorem aDJ (d : Int) (c : -10000000000000000 <= dU d /\ dU d <= 10000000000000000) :
 uV (12 * (dN d).1 + (dN d).2.1 - 1) = (st (dU d) + dW (dU d) (LW (dU d) (d - st (dU d))), st (dU d) + dW (dU d) (LW (dU d) (d - st (dU d)) + 1) - 1, 0) := by
 have e : dN d = (dU d, LW (dU d) (d - st (dU d)), 0) := by unfold dN; rw [if_pos c]
 obtain ⟨s1, s2⟩ := iE d
 obtain ⟨m0, m1, -, -⟩ := @oN (dU d) (d - st (dU d)) (by omega) (by have := st_succ (dU d); omega)
 rw [e]; dsimp only
 generalize LW (dU d) (d - st (dU d)) = m at m0 m1 ⊢
 have q : (12 * dU d + m - 1) / 12 = dU d := by omega
 have r : (12 * dU d + m - 1) % 12 = m - 1 := by omega
 unfold uV
 rw [q, r, if_pos c, show m - 1 + 1 = m by omega, show m - 1 + 2 = m + 1 by omega]
theorem RH (d : Int) (w : World) (hs : eU w) (h0 : -9223372036854775808 <= d) (h1 : d < 9223372036854775808) :
 Calls Tryz.prog 85 #[.int .i64 d, .int .u8 2] w fun r w' => r = .returned (.tuple #[rv 0 (oW 2 d).1 0 (oW 2 d).2.1, .int .i64 (oW 2 d).2.2]) /\ Below w.heap.size w w' := by
 obtain ⟨b1, b2, b3, b4⟩ := D6 d
 have h := MJ d _ _ _ _ _ w hs (fun W c => aAF d W c h0 h1) (fun W c => kN _ W c (by omega) (by omega))
 refine h.mono fun r w' ⟨e, b⟩ => ⟨?_, b⟩
 rw [e]
 by_cases c : -10000000000000000 <= dU d /\ dU d <= 10000000000000000
 . rw [aDJ d c]
   unfold oW dN
   simp [c]
 . unfold oW dN
   simp [c]
theorem MH (d p : Int) (w : World) (h0 : 0 <= p) (h1 : p < 256) (hp : p < 1 \/ 3 < p) :
 Calls Tryz.prog 85 #[.int .i64 d, .int .u8 p] w fun r w' => r = .returned (.tuple #[rv 0 0 0 0, .int .i64 18]) /\ Below w.heap.size w w' := by
 have t : decide (1 <= p /\ p <= 3) = false := decide_eq_false (by omega)
 have HK := fun W => fP p W h0 h1
 rw [t] at HK
 replace HK := Lib.hid HK
 clear t hp
 go_enter Tryz.func85, Tryz.ntmps85
 go_wp2_with (first | (go_at_call 117; refine (HK.out _).mono ?_; rintro e w' ⟨rfl, rfl⟩))
 refine bodyPost_ret (v := .tuple #[rv 0 0 0 0, .int .i64 18]) (by simp [results, Tryz.results85, go_sem, rv]) rfl ⟨rfl, ?_⟩
 exact ba (Below.refl _ _) _
def aT (p d : Int) : Int × Int × Int := if p < 1 \/ 3 < p then (0, 0, 18) else oW p d
theorem kK (d p : Int) (w : World) (hs : eU w) (h0 : -9223372036854775808 <= d) (h1 : d < 9223372036854775808) (p0 : 0 <= p) (p1 : p < 256) :
 Calls Tryz.prog 85 #[.int .i64 d, .int .u8 p] w fun r w' => r = .returned (.tuple #[rv 0 (aT p d).1 0 (aT p d).2.1, .int .i64 (aT p d).2.2]) /\ Below w.heap.size w w' := by
 unfold aT
 by_cases hp : p < 1 \/ 3 < p
 . rw [if_pos hp]
   exact MH d p w p0 p1 hp
 . rw [if_neg hp]
   obtain rfl | rfl | rfl : p = 1 \/ p = 2 \/ p = 3 := by omega
   . exact RI d w hs h0 h1
   . exact RH d w hs h0 h1
   . exact RG d w hs
end Un
end
section
open Go.RowKit
namespace Un
open Cal
end Un
end
section
open Go.RowKit
namespace Un
open Cal
end Un
end
section
open Go.RowKit
namespace Un
open Cal
end Un
end
section
open Go.RowKit
namespace Un
open Cal
end Un
end
section
open Go.RowKit
namespace Un
open Cal
end Un
end
section
open Go.RowKit Go.Lib
namespace Bk
open Un (ba bt ri rb aX bP)
def yv (neg long : Bool) (s : ByteArray) (ex sig : Int) : Value := .agg #[.bool neg, .bool long, .string s, .int .i64 ex, .int .i64 sig]
structure Ym (p : Nat) (neg long : Bool) (s : ByteArray) (ex sig : Int) (w W : World) : Prop where
 c0 : W.cell? ⟨p, 0, none⟩ = some (.bool neg)
 c1 : W.cell? ⟨p, 1, none⟩ = some (.bool long)
 c2 : W.cell? ⟨p, 2, none⟩ = some (.string s)
 c3 : W.cell? ⟨p, 3, none⟩ = some (.int .i64 ex)
 c4 : W.cell? ⟨p, 4, none⟩ = some (.int .i64 sig)
 below : Below w.heap.size w W
theorem Ym.later {p : Nat} {neg long : Bool} {s : ByteArray} {ex sig : Int} {w W W2 : World} (h : Ym p neg long s ex sig w W) (hb : Below W.heap.size W W2) : Ym p neg long s ex sig w W2 :=
 have g : ∀ {p : Addr} {v : Value}, W.cell? p = some v -> W2.cell? p = some v := fun {p v} hc => (hb.cell (World.block_lt_of_cell? _ _ hc)).trans hc
 ⟨g h.c0, g h.c1, g h.c2, g h.c3, g h.c4, bt h.below hb⟩
theorem Ym.new (neg long : Bool) (s : ByteArray) (ex sig : Int) (w : World) (t : TypeId) : Ym w.heap.size neg long s ex sig w (w.alloc (.cells #[.bool neg, .bool long, .string s, .int .i64 ex, .int .i64 sig] t)) := by
 refine ⟨?_, ?_, ?_, ?_, ?_, ba (Below.refl _ _) _⟩ <;> simp [go_sem]
theorem Ym.drew' {p : Nat} {neg long : Bool} {s : ByteArray} {ex sig : Int} {w W : World} (h : Ym p neg long s ex sig w W) : Ym p neg long s ex sig w W.drew := h.later (Below.refl _ _).drew
theorem lX (neg long : Bool) (s : ByteArray) (ex sig : Int) (w : World) :
 Calls Tryz.prog 132 #[yv neg long s ex sig] w fun r w' => r = .returned (.bool (hasB 88 s)) /\ Below w.heap.size w w' := by
 have HC : ∀ W, Calls Tryz.prog 84 #[.string s, .string ⟨#[88]⟩] W fun e w' => e = .returned (.bool (hasB 88 s)) /\ w' = W := by
  intro W
  have := Tryz.strings_Contains_one s 88 W
  rw [lT] at this
  exact this
 replace HC := Lib.hid HC
 unfold yv
 go_enter Tryz.func132, Tryz.ntmps132
 go_wp2_with (go_at_call 84; with_reducible refine (HC.out _).mono ?_; rintro _ w' ⟨rfl, rfl⟩)
 go_ret
 exact ⟨rfl, ba (Below.refl _ _) _⟩
def EW (m : Int) : Int × Int := if m <= 10000000000000000 then (m, 0) else (0, 6)
theorem parse_any (s : ByteArray) (hd : allB dG s = true) (h1 : 1 <= s.size) (h2 : s.size <= 17) (W : World) :
 Calls Tryz.prog 193 #[.string s, .int .i64 10, .int .i64 64] W fun e w' => e = .returned (.tuple #[.int .i64 (gB s), .nilIface]) /\ Below W.heap.size W w' := by
 have hl : s.data.toList.length = s.size := by simp
 have hp := QE s.data.toList (fun e => by rw [e] at hl; have : ([] : List UInt8).length = 0 := rfl; omega) (DJ hd) (by omega)
 refine (Tryz.strconv_ParseInt_10_at64_ok s (by omega) _ hp W).mono ?_
 rintro e w' ⟨rfl, h⟩
 refine ⟨rfl, ?_⟩
 rcases h with rfl | ⟨t, rfl⟩
 . exact Below.refl _ _
 . exact Go.Lib.bytesWorld_below _ _ _
theorem tN (neg long : Bool) (s : ByteArray) (e : Nat) (sig : Int) (w : World) (hd : allB dG s = true) (h1 : 1 <= s.size) (h2 : s.size <= 17) (he : e <= 16) :
 Calls Tryz.prog 155 #[yv neg long s e sig] w fun r w' => r = .returned (.tuple #[.int .i64 (EW (fO s e)).1, .int .i64 (EW (fO s e)).2]) /\ Below w.heap.size w w' := by
 have HP := Lib.hid (fun w => parse_any s hd h1 h2 w)
 have HT := Lib.hid (fun w => NV e w (by omega))
 have hs := aCc hd h2
 have hs0 := AL s
 have hp := aFw e (by omega)
 have hM := fun w => mul_any (gB s) (p10 e) w hs0 (by omega) (by omega) (by omega)
 have hv : fO s e = gB s * p10 e := by unfold fO; rw [Int.toNat_natCast]
 have hv0 := lZ s e
 have hx : mulC (gB s) (p10 e) = if fO s e <= 9223372036854775807 then (fO s e, 0) else (0, 15) := by unfold mulC; rw [hv]
 rw [hx] at hM
 clear hx hv hd
 generalize fO s e = v at *
 generalize gB s = n at *
 generalize p10 e = p at *
 unfold yv
 have hY := Ym.new neg long s e sig w 35
 by_cases c : v <= 10000000000000000
 . have HM : Hid (∀ w : World, Calls Tryz.prog 195 #[.int .i64 n, .int .i64 p] w fun r w' => r = .returned (.tuple #[.int .i64 v, .int .i64 0]) /\ Below w.heap.size w w') := Lib.hid (by intro w; have := hM w; rw [if_pos (by omega)] at this; exact this)
   clear hM
   have hR : EW v = (v, 0) := by unfold EW; rw [if_pos c]
   rw [hR]
   go_enter Tryz.func155, Tryz.ntmps155
   go_upto_region 1 with (fail)
   generalize w.alloc (.cells #[.bool neg, .bool long, .string s, .int .i64 e, .int .i64 sig] 35) = W0 at hY ⊢
   obtain ⟨q0, q1, q2, q3, q4, qB⟩ := id hY
   go_wp2_with (first
    | (go_at_call 193; with_reducible refine (HP.out _).mono ?_; rintro _ w' ⟨rfl, hb⟩; replace hY := hY.later hb; clear hb; obtain ⟨q0, q1, q2, q3, q4, qB⟩ := id hY)
    | (go_at_call 194; with_reducible refine (HT.out _).mono ?_; rintro _ w' ⟨rfl, rfl⟩)
    | (go_at_call 195; with_reducible refine (HM.out _).mono ?_; rintro _ w' ⟨rfl, hb⟩; replace hY := hY.later hb; clear hb; obtain ⟨q0, q1, q2, q3, q4, qB⟩ := id hY))
   go_ret2
   exact ⟨rfl, hY.below⟩
 . have HM : Hid (∀ w : World, Calls Tryz.prog 195 #[.int .i64 n, .int .i64 p] w fun r w' => (∃ y x : Int, (x ≠ 0 \/ 10000000000000000 < y) /\ r = .returned (.tuple #[.int .i64 y, .int .i64 x])) /\ Below w.heap.size w w') := Lib.hid (by
    intro w; have := hM w
    by_cases c2 : v <= 9223372036854775807
    . rw [if_pos c2] at this
      exact this.mono fun r w' ⟨h1, h2⟩ => ⟨⟨v, 0, Or.inr (by omega), h1⟩, h2⟩
    . rw [if_neg c2] at this
      exact this.mono fun r w' ⟨h1, h2⟩ => ⟨⟨0, 15, Or.inl (by omega), h1⟩, h2⟩)
   clear hM
   have hR : EW v = (0, 6) := by unfold EW; rw [if_neg c]
   rw [hR]
   go_enter Tryz.func155, Tryz.ntmps155
   go_upto_region 1 with (fail)
   generalize w.alloc (.cells #[.bool neg, .bool long, .string s, .int .i64 e, .int .i64 sig] 35) = W0 at hY ⊢
   obtain ⟨q0, q1, q2, q3, q4, qB⟩ := id hY
   go_wp2_with (first
    | (go_at_call 193; with_reducible refine (HP.out _).mono ?_; rintro _ w' ⟨rfl, hb⟩; replace hY := hY.later hb; clear hb; obtain ⟨q0, q1, q2, q3, q4, qB⟩ := id hY)
    | (go_at_call 194; with_reducible refine (HT.out _).mono ?_; rintro _ w' ⟨rfl, rfl⟩)
    | (go_at_call 195; with_reducible refine (HM.out _).mono ?_; rintro _ w' ⟨⟨y, x, hxy, rfl⟩, hb⟩; replace hY := hY.later hb; clear hb; obtain ⟨q0, q1, q2, q3, q4, qB⟩ := id hY))
   all_goals go_ret2
   all_goals first | exact ⟨rfl, hY.below⟩ | (exfalso; omega)
theorem MW (neg long : Bool) (s : ByteArray) (ex sig : Int) (w : World) (hs : s.size <= 1000) :
 Calls Tryz.prog 154 #[yv neg long s ex sig] w fun r w' => r = .returned (.bool (fF s ex)) /\ Below w.heap.size w w' := by
 have hY := Ym.new neg long s ex sig w 35
 have HO := fun w => V7 s w
 unfold XZ at HO
 by_cases c1 : ¬ (1 <= s.size)
 . have hF : fF s ex = false := by
    unfold fF
    simp; omega
   rw [hF]; clear hF
   clear HO
   unfold yv
   go_enter Tryz.func154, Tryz.ntmps154
   go_upto_region 1 with (fail)
   generalize w.alloc (.cells #[.bool neg, .bool long, .string s, .int .i64 ex, .int .i64 sig] 35) = W0 at hY ⊢
   obtain ⟨q0, q1, q2, q3, q4, qB⟩ := id hY
   go_wp2_with fail
   go_ret
   exact ⟨rfl, hY.below⟩
 replace c1 : 1 <= s.size := by omega
 by_cases c2 : ¬ (s.size <= 17)
 . have hF : fF s ex = false := by
    unfold fF
    simp; omega
   rw [hF]; clear hF
   clear HO
   unfold yv
   go_enter Tryz.func154, Tryz.ntmps154
   go_upto_region 1 with (fail)
   generalize w.alloc (.cells #[.bool neg, .bool long, .string s, .int .i64 ex, .int .i64 sig] 35) = W0 at hY ⊢
   obtain ⟨q0, q1, q2, q3, q4, qB⟩ := id hY
   go_wp2_with fail
   go_ret
   exact ⟨rfl, hY.below⟩
 replace c2 : s.size <= 17 := by omega
 by_cases c3 : ¬ (allB dG s = true)
 . have hF : fF s ex = false := by
    unfold fF
    rw [Bool.not_eq_true] at c3; simp [c3]
   rw [hF]; clear hF
   rw [show allB dG s = false by simpa using c3] at HO; replace HO := Lib.hid HO; clear c3
   unfold yv
   go_enter Tryz.func154, Tryz.ntmps154
   go_upto_region 1 with (fail)
   generalize w.alloc (.cells #[.bool neg, .bool long, .string s, .int .i64 ex, .int .i64 sig] 35) = W0 at hY ⊢
   obtain ⟨q0, q1, q2, q3, q4, qB⟩ := id hY
   go_wp2_with (first | (go_at_call 152; with_reducible refine (HO.out _).mono ?_; rintro _ w' ⟨rfl, hb⟩; replace hY := hY.later hb; clear hb; obtain ⟨q0, q1, q2, q3, q4, qB⟩ := id hY))
   go_ret
   exact ⟨rfl, hY.below⟩
 have hd : allB dG s = true := by simpa using c3
 rw [hd] at HO; replace HO := Lib.hid HO; clear c3
 have l0 : 0 < s.size := by omega
 by_cases c4 : ¬ (aZ s 0 ≠ 48)
 . have hF : fF s ex = false := by
    unfold fF
    have : aZ s 0 = 48 := by omega
    simp [this]
   have c4b : ((s[0]'l0).toNat : Int) = 48 := by rw [<- bY s 0 l0]; omega
   rw [hF]; clear hF
   unfold yv
   go_enter Tryz.func154, Tryz.ntmps154
   go_upto_region 1 with (fail)
   generalize w.alloc (.cells #[.bool neg, .bool long, .string s, .int .i64 ex, .int .i64 sig] 35) = W0 at hY ⊢
   obtain ⟨q0, q1, q2, q3, q4, qB⟩ := id hY
   go_wp2_with (first | (go_at_call 152; with_reducible refine (HO.out _).mono ?_; rintro _ w' ⟨rfl, hb⟩; replace hY := hY.later hb; clear hb; obtain ⟨q0, q1, q2, q3, q4, qB⟩ := id hY))
   go_ret
   exact ⟨rfl, hY.below⟩
 have c4' : aZ s 0 ≠ 48 := by simpa using c4
 clear c4
 have c4b : ¬ (((s[0]'(by omega)).toNat : Int) = 48) := by rw [<- bY s 0 (by omega)]; exact c4'
 have l0 : 0 < s.size := by omega
 by_cases c5 : ¬ (0 <= ex)
 . have hF : fF s ex = false := by
    unfold fF
    simp; omega
   rw [hF]; clear hF
   unfold yv
   go_enter Tryz.func154, Tryz.ntmps154
   go_upto_region 1 with (fail)
   generalize w.alloc (.cells #[.bool neg, .bool long, .string s, .int .i64 ex, .int .i64 sig] 35) = W0 at hY ⊢
   obtain ⟨q0, q1, q2, q3, q4, qB⟩ := id hY
   go_wp2_with (first | (go_at_call 152; with_reducible refine (HO.out _).mono ?_; rintro _ w' ⟨rfl, hb⟩; replace hY := hY.later hb; clear hb; obtain ⟨q0, q1, q2, q3, q4, qB⟩ := id hY))
   go_ret
   exact ⟨rfl, hY.below⟩
 replace c5 : 0 <= ex := by omega
 by_cases c6 : ¬ (ex <= 16)
 . have hF : fF s ex = false := by
    unfold fF
    simp; omega
   rw [hF]; clear hF
   unfold yv
   go_enter Tryz.func154, Tryz.ntmps154
   go_upto_region 1 with (fail)
   generalize w.alloc (.cells #[.bool neg, .bool long, .string s, .int .i64 ex, .int .i64 sig] 35) = W0 at hY ⊢
   obtain ⟨q0, q1, q2, q3, q4, qB⟩ := id hY
   go_wp2_with (first | (go_at_call 152; with_reducible refine (HO.out _).mono ?_; rintro _ w' ⟨rfl, hb⟩; replace hY := hY.later hb; clear hb; obtain ⟨q0, q1, q2, q3, q4, qB⟩ := id hY))
   go_ret
   exact ⟨rfl, hY.below⟩
 replace c6 : ex <= 16 := by omega
 by_cases c7 : ¬ (¬ (ex = 0 /\ s.size < 5))
 . have hF : fF s ex = false := by
    unfold fF
    have h1 : ex = 0 := by omega
    have h2 : s.size < 5 := by omega
    simp [h1, h2]
   rw [hF]; clear hF
   unfold yv
   go_enter Tryz.func154, Tryz.ntmps154
   go_upto_region 1 with (fail)
   generalize w.alloc (.cells #[.bool neg, .bool long, .string s, .int .i64 ex, .int .i64 sig] 35) = W0 at hY ⊢
   obtain ⟨q0, q1, q2, q3, q4, qB⟩ := id hY
   have c7a : ex = 0 := by omega
   have c7b : s.size < 5 := by omega
   go_wp2_with (first | (go_at_call 152; with_reducible refine (HO.out _).mono ?_; rintro _ w' ⟨rfl, hb⟩; replace hY := hY.later hb; clear hb; obtain ⟨q0, q1, q2, q3, q4, qB⟩ := id hY))
   go_ret
   exact ⟨rfl, hY.below⟩
 replace c7 : ¬ (ex = 0 /\ s.size < 5) := by omega
 obtain ⟨e, rfl⟩ : ∃ e : Nat, ex = e := ⟨ex.toNat, by omega⟩
 have hG := fun w => tN neg long s e sig w hd c1 c2 (by omega)
 have hL : fF s e = decide (fO s e <= 10000000000000000) := by
  unfold fF
  have h7 : (decide ((e : Int) = 0) && decide (s.size < 5)) = false := by
   rw [Bool.eq_false_iff]; intro h; simp at h; omega
  rw [hd, h7]
  simp [c1, c2, c4', show (e : Int) <= 16 by omega]
 rw [hL]
 clear hL
 generalize fO s e = v at *
 clear hd
 have hE : (((e : Int) == 0) = true /\ ¬ (s.size : Int) < 5) \/ ((e : Int) == 0) = false := by
  by_cases h0 : (e : Int) = 0
  . exact .inl ⟨by rw [h0]; rfl, by omega⟩
  . exact .inr (by rw [beq_eq_false_iff_ne]; exact h0)
 rcases hE with ⟨hE, hE2⟩ | hE
 all_goals
  by_cases c : v <= 10000000000000000
  . rw [show EW v = (v, 0) by unfold EW; rw [if_pos c]] at hG
    have HG := Lib.hid hG; clear hG
    unfold yv at HG
    rw [decide_eq_true c]
    unfold yv
    go_enter Tryz.func154, Tryz.ntmps154
    go_upto_region 1 with (fail)
    generalize w.alloc (.cells #[.bool neg, .bool long, .string s, .int .i64 e, .int .i64 sig] 35) = W0 at hY ⊢
    obtain ⟨q0, q1, q2, q3, q4, qB⟩ := id hY
    go_wp2_with (first | (go_at_call 152; with_reducible refine (HO.out _).mono ?_; rintro _ w' ⟨rfl, hb⟩; replace hY := hY.later hb; clear hb; obtain ⟨q0, q1, q2, q3, q4, qB⟩ := id hY) | (go_at_call 155; with_reducible refine (HG.out _).mono ?_; rintro _ w' ⟨rfl, hb⟩; replace hY := hY.later hb; clear hb; obtain ⟨q0, q1, q2, q3, q4, qB⟩ := id hY))
    all_goals go_ret
    all_goals first | exact ⟨rfl, hY.below⟩ | (exfalso; omega) | (exfalso; rename_i h; simp only [beq_iff_eq] at h; omega)
  . rw [show EW v = (0, 6) by unfold EW; rw [if_neg c]] at hG
    have HG := Lib.hid hG; clear hG
    unfold yv at HG
    rw [decide_eq_false c]
    unfold yv
    go_enter Tryz.func154, Tryz.ntmps154
    go_upto_region 1 with (fail)
    generalize w.alloc (.cells #[.bool neg, .bool long, .string s, .int .i64 e, .int .i64 sig] 35) = W0 at hY ⊢
    obtain ⟨q0, q1, q2, q3, q4, qB⟩ := id hY
    go_wp2_with (first | (go_at_call 152; with_reducible refine (HO.out _).mono ?_; rintro _ w' ⟨rfl, hb⟩; replace hY := hY.later hb; clear hb; obtain ⟨q0, q1, q2, q3, q4, qB⟩ := id hY) | (go_at_call 155; with_reducible refine (HG.out _).mono ?_; rintro _ w' ⟨rfl, hb⟩; replace hY := hY.later hb; clear hb; obtain ⟨q0, q1, q2, q3, q4, qB⟩ := id hY))
    all_goals go_ret
    all_goals first | exact ⟨rfl, hY.below⟩ | (exfalso; omega) | (exfalso; rename_i h; simp only [beq_iff_eq] at h; omega)
end Bk
end
section
open Go.RowKit Go.Lib
namespace Bk
open Un (ba bt ri rb aX bP)
theorem aCM (s : ByteArray) : (Lib.trimB s.data.toList 48 = []) ↔ allB isZ s = true := by
 rw [<- trimS_one, aCL]
 unfold allB isZ
 rw [List.all_eq_true, List.all_eq_true]
 constructor
 . intro h b hb
   have := h b hb
   rw [beq_iff_eq] at this
   subst this; rfl
 . intro h b hb
   have := of_decide_eq_true (h b hb)
   rw [beq_iff_eq]
   exact UInt8.toNat_inj.1 (by show b.toNat = 48; omega)
theorem aCN (s : ByteArray) (hs : s.size <= 1000) (W : World) :
 Calls Tryz.prog 153 #[.string s, .string ⟨#[48]⟩] W fun e w' => (∃ t : List UInt8, (t = [] ↔ allB isZ s = true) /\ e = .returned (.string ⟨t.toArray⟩)) /\ Below W.heap.size W w' := by
 refine (Tryz.strings_Trim_one s 48 (by decide) W (by omega)).mono ?_
 rintro e w' ⟨rfl, h⟩
 refine ⟨⟨_, aCM s, rfl⟩, ?_⟩
 rcases h with rfl | rfl
 . exact Below.refl _ _
 . exact (Below.refl _ _).drew
theorem F6 (neg long : Bool) (s : ByteArray) (ex sig : Int) (w : World) (hs : s.size <= 1000) :
 Calls Tryz.prog 131 #[yv neg long s ex sig] w fun r w' => r = .returned (.int .i64 (if KZ neg long s ex sig then 0 else 6)) /\ Below w.heap.size w w' := by
 obtain ⟨R, hR⟩ : ∃ R : Int, R = if KZ neg long s ex sig then 0 else 6 := ⟨_, rfl⟩
 rw [<- hR]
 replace hR := Lib.hid hR
 have hY := Ym.new neg long s ex sig w 35
 have hO := fun w => aDj s w
 unfold UG at hO
 have hT := fun w => aCN s hs w
 have HM := Lib.hid (fun w => lX neg long s ex sig w)
 have HL := Lib.hid (fun w => MW neg long s ex sig w hs)
 unfold yv at HM HL
 unfold yv
 go_enter Tryz.func131, Tryz.ntmps131
 go_upto_region 1 with (fail)
 generalize w.alloc (.cells #[.bool neg, .bool long, .string s, .int .i64 ex, .int .i64 sig] 35) = W0 at hY ⊢
 obtain ⟨q0, q1, q2, q3, q4, qB⟩ := id hY
 obtain ⟨S, hS⟩ : ∃ S, S = iD neg s ex sig := ⟨_, rfl⟩
 replace hS := Lib.hid hS
 go_cut [3] (fun s3 wx => s3 = .bool S /\ Ym w.heap.size neg long s ex sig w wx)
 case first =>
  clear HL
  by_cases c1 : ¬ s.size = 4
  . have hF : iD neg s ex sig = false := by unfold iD; simp [c1]
    obtain rfl : S = false := hS.out.trans hF; clear hF hS hO hT HM
    go_wp2_with fail
    go_meet
    exact ⟨rfl, hY⟩
  replace c1 : s.size = 4 := by omega
  by_cases c2 : allB dP s = true
  case neg =>
   have hF : iD neg s ex sig = false := by unfold iD; simp [c2]
   obtain rfl : S = false := hS.out.trans hF; clear hF hS hT HM
   rw [show allB dP s = false by simpa using c2] at hO
   have HO := Lib.hid hO
   clear hO c2
   go_wp2_with (first | (go_at_call 152; with_reducible refine (HO.out _).mono ?_; rintro _ w' ⟨rfl, hb⟩; replace hY := hY.later hb; clear hb; obtain ⟨q0, q1, q2, q3, q4, qB⟩ := id hY))
   go_meet
   exact ⟨rfl, hY⟩
  rw [c2] at hO
  have HO := Lib.hid hO
  clear hO
  by_cases c3 : ¬ ex = 0
  . have hF : iD neg s ex sig = false := by unfold iD; simp [c3]
    obtain rfl : S = false := hS.out.trans hF; clear hF hS hT HM c2
    go_wp2_with (first | (go_at_call 152; with_reducible refine (HO.out _).mono ?_; rintro _ w' ⟨rfl, hb⟩; replace hY := hY.later hb; clear hb; obtain ⟨q0, q1, q2, q3, q4, qB⟩ := id hY))
    go_meet
    exact ⟨rfl, hY⟩
  obtain rfl : ex = 0 := by omega
  have hF : iD neg s 0 sig = (!(neg && allB isZ s) && !(!decide (sig = 0) && hasB 88 s)) := by unfold iD; simp [c1, c2]
  have hV := hS.out.trans hF
  clear hF hS c2 c3
  generalize hasB 88 s = x at HM hV
  cases neg
  . clear hT
    by_cases c4 : sig = 0
    . subst c4
      obtain rfl : S = true := by rw [hV]; simp
      clear hV HM
      go_wp2_with (first | (go_at_call 152; with_reducible refine (HO.out _).mono ?_; rintro _ w' ⟨rfl, hb⟩; replace hY := hY.later hb; clear hb; obtain ⟨q0, q1, q2, q3, q4, qB⟩ := id hY))
      go_meet
      exact ⟨rfl, hY⟩
    . have c4b : (sig != 0) = true := by rw [bne_iff_ne]; exact c4
      cases x
      . obtain rfl : S = true := by rw [hV]; simp
        clear hV
        go_wp2_with (first | (go_at_call 152; with_reducible refine (HO.out _).mono ?_; rintro _ w' ⟨rfl, hb⟩; replace hY := hY.later hb; clear hb; obtain ⟨q0, q1, q2, q3, q4, qB⟩ := id hY) | (go_at_call 132; with_reducible refine (HM.out _).mono ?_; rintro _ w' ⟨rfl, hb⟩; replace hY := hY.later hb; clear hb; obtain ⟨q0, q1, q2, q3, q4, qB⟩ := id hY))
        go_meet
        exact ⟨rfl, hY⟩
      . obtain rfl : S = false := by rw [hV]; simp [c4]
        clear hV
        go_wp2_with (first | (go_at_call 152; with_reducible refine (HO.out _).mono ?_; rintro _ w' ⟨rfl, hb⟩; replace hY := hY.later hb; clear hb; obtain ⟨q0, q1, q2, q3, q4, qB⟩ := id hY) | (go_at_call 132; with_reducible refine (HM.out _).mono ?_; rintro _ w' ⟨rfl, hb⟩; replace hY := hY.later hb; clear hb; obtain ⟨q0, q1, q2, q3, q4, qB⟩ := id hY))
        go_meet
        exact ⟨rfl, hY⟩
  . cases hz : allB isZ s
    . rw [hz] at hT hV
      have HT : Hid (∀ W, Calls Tryz.prog 153 #[.string s, .string ⟨#[48]⟩] W fun e w' => (∃ u : ByteArray, u.toList.isEmpty = false /\ e = .returned (.string u)) /\ Below W.heap.size W w') := Lib.hid (by
       intro W; refine (hT W).mono ?_; rintro e w' ⟨⟨t, ht, h⟩, hb⟩
       refine ⟨⟨_, ?_, h⟩, hb⟩
       rw [ByteArray.toList_mk]
       cases t with
       | nil => exact absurd (ht.1 rfl) (by decide)
       | cons a b => rfl)
      clear hT hz
      by_cases c4 : sig = 0
      . subst c4
        obtain rfl : S = true := by rw [hV]; simp
        clear hV HM
        go_wp2_with (first | (go_at_call 152; with_reducible refine (HO.out _).mono ?_; rintro _ w' ⟨rfl, hb⟩; replace hY := hY.later hb; clear hb; obtain ⟨q0, q1, q2, q3, q4, qB⟩ := id hY) | (go_at_call 153; with_reducible refine (HT.out _).mono ?_; rintro _ w' ⟨⟨u, hu, rfl⟩, hb⟩; replace hY := hY.later hb; clear hb; obtain ⟨q0, q1, q2, q3, q4, qB⟩ := id hY))
        go_meet
        exact ⟨rfl, hY⟩
      . have c4b : (sig != 0) = true := by rw [bne_iff_ne]; exact c4
        cases x
        . obtain rfl : S = true := by rw [hV]; simp
          clear hV
          go_wp2_with (first | (go_at_call 152; with_reducible refine (HO.out _).mono ?_; rintro _ w' ⟨rfl, hb⟩; replace hY := hY.later hb; clear hb; obtain ⟨q0, q1, q2, q3, q4, qB⟩ := id hY) | (go_at_call 153; with_reducible refine (HT.out _).mono ?_; rintro _ w' ⟨⟨u, hu, rfl⟩, hb⟩; replace hY := hY.later hb; clear hb; obtain ⟨q0, q1, q2, q3, q4, qB⟩ := id hY) | (go_at_call 132; with_reducible refine (HM.out _).mono ?_; rintro _ w' ⟨rfl, hb⟩; replace hY := hY.later hb; clear hb; obtain ⟨q0, q1, q2, q3, q4, qB⟩ := id hY))
          go_meet
          exact ⟨rfl, hY⟩
        . obtain rfl : S = false := by rw [hV]; simp [c4]
          clear hV
          go_wp2_with (first | (go_at_call 152; with_reducible refine (HO.out _).mono ?_; rintro _ w' ⟨rfl, hb⟩; replace hY := hY.later hb; clear hb; obtain ⟨q0, q1, q2, q3, q4, qB⟩ := id hY) | (go_at_call 153; with_reducible refine (HT.out _).mono ?_; rintro _ w' ⟨⟨u, hu, rfl⟩, hb⟩; replace hY := hY.later hb; clear hb; obtain ⟨q0, q1, q2, q3, q4, qB⟩ := id hY) | (go_at_call 132; with_reducible refine (HM.out _).mono ?_; rintro _ w' ⟨rfl, hb⟩; replace hY := hY.later hb; clear hb; obtain ⟨q0, q1, q2, q3, q4, qB⟩ := id hY))
          go_meet
          exact ⟨rfl, hY⟩
    . rw [hz] at hT hV
      have HT : Hid (∀ W, Calls Tryz.prog 153 #[.string s, .string ⟨#[48]⟩] W fun e w' => e = .returned (.string ⟨#[]⟩) /\ Below W.heap.size W w') := Lib.hid (by
       intro W; refine (hT W).mono ?_; rintro e w' ⟨⟨t, ht, h⟩, hb⟩; obtain rfl := ht.2 rfl; exact ⟨h, hb⟩)
      clear hT hz
      obtain rfl : S = false := by rw [hV]; rfl
      clear hV
      go_wp2_with (first | (go_at_call 152; with_reducible refine (HO.out _).mono ?_; rintro _ w' ⟨rfl, hb⟩; replace hY := hY.later hb; clear hb; obtain ⟨q0, q1, q2, q3, q4, qB⟩ := id hY) | (go_at_call 153; with_reducible refine (HT.out _).mono ?_; rintro _ w' ⟨rfl, hb⟩; replace hY := hY.later hb; clear hb; obtain ⟨q0, q1, q2, q3, q4, qB⟩ := id hY))
      go_meet
      exact ⟨rfl, hY⟩
 case rest =>
  obtain ⟨rfl, hY⟩ := hcut
  obtain rfl := hS.out
  clear hS hO hT HM
  obtain ⟨q0, q1, q2, q3, q4, qB⟩ := id hY
  have hR2 := hR.out
  clear hR
  unfold KZ at hR2
  cases long
  . have hk : iD neg s ex sig = true -> ex = 0 := by unfold iD; intro h; simp at h; exact h.2.2.1
    simp only [Bool.false_eq_true, if_false] at hR2
    generalize iD neg s ex sig = ok at *
    clear HL
    have HR := Lib.hid hR2
    clear hR2
    cases ok
    . clear hk
      go_wp2_with fail
      go_ret
      exact ⟨ri (by rw [HR.out]; simp), hY.below⟩
    . have hk2 : ex = 0 := hk rfl
      clear hk
      by_cases d1 : sig < 0
      . go_wp2_with fail
        go_ret
        exact ⟨ri (by rw [HR.out, show decide (0 <= sig) = false from decide_eq_false (by omega)]; rfl), hY.below⟩
      . by_cases d2 : sig <= s.size + ex
        . go_wp2_with fail
          go_ret
          exact ⟨ri (by rw [HR.out, show decide (0 <= sig) = true from decide_eq_true (by omega), show decide (sig <= s.size + ex) = true from decide_eq_true (by omega)]; rfl), hY.below⟩
        . go_wp2_with fail
          go_ret
          exact ⟨ri (by rw [HR.out, show decide (sig <= s.size + ex) = false from decide_eq_false (by omega), Bool.and_false, Bool.and_false]; rfl), hY.below⟩
  . have hk : fF s ex = true -> 0 <= ex /\ ex <= 16 := by unfold fF; intro h; simp at h; omega
    simp only [if_true] at hR2
    generalize iD neg s ex sig = o2 at *
    generalize fF s ex = ok at *
    have HR := Lib.hid hR2
    clear hR2
    cases ok
    . clear hk
      go_wp2_with (first | (go_at_call 154; with_reducible refine (HL.out _).mono ?_; rintro _ w' ⟨rfl, hb⟩; replace hY := hY.later hb; clear hb; obtain ⟨q0, q1, q2, q3, q4, qB⟩ := id hY))
      go_ret
      exact ⟨ri (by rw [HR.out]; simp), hY.below⟩
    . have hk2 := hk rfl
      clear hk
      by_cases d1 : sig < 0
      . go_wp2_with (first | (go_at_call 154; with_reducible refine (HL.out _).mono ?_; rintro _ w' ⟨rfl, hb⟩; replace hY := hY.later hb; clear hb; obtain ⟨q0, q1, q2, q3, q4, qB⟩ := id hY))
        go_ret
        exact ⟨ri (by rw [HR.out, show decide (0 <= sig) = false from decide_eq_false (by omega)]; rfl), hY.below⟩
      . by_cases d2 : sig <= s.size + ex
        . go_wp2_with (first | (go_at_call 154; with_reducible refine (HL.out _).mono ?_; rintro _ w' ⟨rfl, hb⟩; replace hY := hY.later hb; clear hb; obtain ⟨q0, q1, q2, q3, q4, qB⟩ := id hY))
          go_ret
          exact ⟨ri (by rw [HR.out, show decide (0 <= sig) = true from decide_eq_true (by omega), show decide (sig <= s.size + ex) = true from decide_eq_true (by omega)]; rfl), hY.below⟩
        . go_wp2_with (first | (go_at_call 154; with_reducible refine (HL.out _).mono ?_; rintro _ w' ⟨rfl, hb⟩; replace hY := hY.later hb; clear hb; obtain ⟨q0, q1, q2, q3, q4, qB⟩ := id hY))
          go_ret
          exact ⟨ri (by rw [HR.out, show decide (sig <= s.size + ex) = false from decide_eq_false (by omega), Bool.and_false, Bool.and_false]; rfl), hY.below⟩
def yVal (neg : Bool) (s : ByteArray) (ex : Int) : Int := if neg then -fO s ex else fO s ex
theorem xM (neg long : Bool) (s : ByteArray) (ex sig : Int) (w : World) (hs : s.size <= 1000) (hk : KZ neg long s ex sig = true) (hx : hasB 88 s = false) :
 Calls Tryz.prog 133 #[yv neg long s ex sig] w fun r w' => r = .returned (.tuple #[.int .i64 (yVal neg s ex), .int .i64 0]) /\ Below w.heap.size w w' := by
 have hK := fun w => F6 neg long s ex sig w hs
 have hM := fun w => lX neg long s ex sig w
 rw [hk] at hK
 rw [hx] at hM
 have HK := Lib.hid hK
 have HM := Lib.hid hM
 clear hK hM
 have hf : ∃ e : Nat, ex = e /\ e <= 16 /\ allB dG s = true /\ 1 <= s.size /\ s.size <= 17 /\ fO s ex <= 10000000000000000 := by
  cases long
  . obtain ⟨h1, h2, h3, _⟩ := iF hk
    have hd := (kT h2).1 hx
    have := pF hd h1
    have hz : fO s 0 = gB s := by unfold fO p10; simp
    exact ⟨0, h3, by omega, hd, by omega, by omega, by rw [h3, hz]; omega⟩
  . obtain ⟨h1, h2, h3, h4, h5, h6, h7, _⟩ := jD hk
    exact ⟨ex.toNat, by omega, by omega, h3, h1, h2, h7⟩
 obtain ⟨e, rfl, he, hd, h1, h2, hm⟩ := hf
 have hG := fun w => tN neg long s e sig w hd h1 h2 he
 have hm0 := lZ s e
 unfold yVal
 clear hd hk hx
 generalize fO s e = v at *
 rw [show EW v = (v, 0) by unfold EW; rw [if_pos hm]] at hG
 have HG := Lib.hid hG
 clear hG
 unfold yv at HK HM HG
 have hY := Ym.new neg long s e sig w 35
 cases neg
 . unfold yv
   go_enter Tryz.func133, Tryz.ntmps133
   go_upto_region 1 with (fail)
   generalize w.alloc (.cells #[.bool false, .bool long, .string s, .int .i64 e, .int .i64 sig] 35) = W0 at hY ⊢
   obtain ⟨q0, q1, q2, q3, q4, qB⟩ := id hY
   go_wp2_with (first | (go_at_call 131; with_reducible refine (HK.out _).mono ?_; rintro _ w' ⟨rfl, hb⟩; replace hY := hY.later hb; clear hb; obtain ⟨q0, q1, q2, q3, q4, qB⟩ := id hY) | (go_at_call 132; with_reducible refine (HM.out _).mono ?_; rintro _ w' ⟨rfl, hb⟩; replace hY := hY.later hb; clear hb; obtain ⟨q0, q1, q2, q3, q4, qB⟩ := id hY) | (go_at_call 155; with_reducible refine (HG.out _).mono ?_; rintro _ w' ⟨rfl, hb⟩; replace hY := hY.later hb; clear hb; obtain ⟨q0, q1, q2, q3, q4, qB⟩ := id hY))
   go_ret2
   exact ⟨rfl, hY.below⟩
 . unfold yv
   go_enter Tryz.func133, Tryz.ntmps133
   go_upto_region 1 with (fail)
   generalize w.alloc (.cells #[.bool true, .bool long, .string s, .int .i64 e, .int .i64 sig] 35) = W0 at hY ⊢
   obtain ⟨q0, q1, q2, q3, q4, qB⟩ := id hY
   go_wp2_with (first | (go_at_call 131; with_reducible refine (HK.out _).mono ?_; rintro _ w' ⟨rfl, hb⟩; replace hY := hY.later hb; clear hb; obtain ⟨q0, q1, q2, q3, q4, qB⟩ := id hY) | (go_at_call 132; with_reducible refine (HM.out _).mono ?_; rintro _ w' ⟨rfl, hb⟩; replace hY := hY.later hb; clear hb; obtain ⟨q0, q1, q2, q3, q4, qB⟩ := id hY) | (go_at_call 155; with_reducible refine (HG.out _).mono ?_; rintro _ w' ⟨rfl, hb⟩; replace hY := hY.later hb; clear hb; obtain ⟨q0, q1, q2, q3, q4, qB⟩ := id hY))
   go_ret2
   exact ⟨rfl, hY.below⟩
end Bk
end
section
open Go.RowKit Go.Lib
namespace Bk
open Un (ba bt ri rb aX bP fQ eU)
open Cal
def eH (c : Int) : Int := if c = 21 \/ c = 25 \/ c = 31 then 3 else if c = 22 \/ c = 26 \/ c = 32 then 6 else if c = 23 \/ c = 27 \/ c = 29 \/ c = 39 then 9 else if c = 24 \/ c = 28 \/ c = 30 then 12 else if c = 34 then 4 else if c = 35 \/ c = 41 then 7 else if c = 36 then 10 else if c = 38 then 5 else 1
def gQ (c : Int) : Int := if c <= 36 then 3 else if c <= 39 then 4 else 6
def pO (i : Nat) : Int := if i % 2 = 0 then eH (21 + i / 2) else gQ (21 + i / 2)
structure qI (w : World) : Prop where
 cal : eU w
 span : ∀ i : Nat, i < 42 -> w.cell? ⟨1, i, none⟩ = some (.int .i64 (pO i))
 syn : ∃ t p, w.cell? ⟨3, 0, none⟩ = some (.iface t p)
 ran : ∃ t p, w.cell? ⟨4, 0, none⟩ = some (.iface t p)
theorem qI.below {w w' : World} (h : qI w) (hb : Below w.heap.size w w') : qI w' :=
 ⟨h.cal.below hb, fun i hi => cell_later hb (h.span i hi), by obtain ⟨t, p, h⟩ := h.syn; exact ⟨t, p, cell_later hb h⟩, by obtain ⟨t, p, h⟩ := h.ran; exact ⟨t, p, cell_later hb h⟩⟩
theorem aKd (s : ByteArray) (v : Int) (h : atoiAll s.data.toList = .ok v) (hs : s.size <= 1000) (W : World) :
 Calls Tryz.prog 129 #[.string s] W fun e w' => e = .returned (.tuple #[.int .i64 v, .nilIface]) /\ Below W.heap.size W w' := by
 refine (Tryz.strconv_Atoi_ok s (by omega) v h W).mono ?_
 rintro e w' ⟨rfl, h⟩
 refine ⟨rfl, ?_⟩
 rcases h with rfl | ⟨t, rfl⟩
 . exact Below.refl _ _
 . exact Go.Lib.bytesWorld_below _ _ _
theorem aHD (s : ByteArray) (h : ∀ v, atoiAll s.data.toList ≠ .ok v) (hs : s.size <= 1000) (W : World) (hk : qI W) :
 Calls Tryz.prog 129 #[.string s] W fun e w' => (∃ x t p, e = .returned (.tuple #[.int .i64 x, .iface t p])) /\ Below W.heap.size W w' := by
 obtain ⟨t1, p1, h1⟩ := hk.syn
 obtain ⟨t2, p2, h2⟩ := hk.ran
 by_cases hh : atoiAll s.data.toList = .range
 . refine (Tryz.strconv_Atoi_range s (by omega) hh _ W h2 (.inr ⟨_, _, rfl⟩)).mono ?_
   rintro e w' ⟨N, rfl, _, _, hb⟩
   exact ⟨⟨_, _, _, rfl⟩, hb⟩
 . refine (Tryz.strconv_Atoi_syntax s (by omega) h hh _ W h1 (.inr ⟨_, _, rfl⟩)).mono ?_
   rintro e w' ⟨N, rfl, _, _, hb⟩
   exact ⟨⟨_, _, _, rfl⟩, hb⟩
theorem aTP (pn pa pb pe : Addr) (n a b : Int) (u : FrameMode) (w : World) (hn : w.cell? pn = some (.int .i64 n)) (ha : w.cell? pa = some (.int .i64 a)) (hb : w.cell? pb = some (.int .i64 b)) (h : decide (a < n) = decide (0 < b)) :
 CallsD Tryz.prog 177 #[.pointer (some pn), .pointer (some pa), .pointer (some pb), .pointer (some pe)] u w fun e u' w' => u' = u /\ (e = .returned (.tuple #[]) /\ w' = w) := by
 by_cases c : 0 < b
 . have c2 : a < n := by rw [decide_eq_true c] at h; exact of_decide_eq_true h
   clear h
   go_enter_d Tryz.func177, Tryz.ntmps177
   go_wp2
   go_end0
   exact ⟨rfl, rfl⟩
 . have c2 : ¬ a < n := by rw [decide_eq_false c] at h; exact of_decide_eq_false h
   clear h
   go_enter_d Tryz.func177, Tryz.ntmps177
   go_wp2
   go_end0
   exact ⟨rfl, rfl⟩
theorem yG (a b : Int) (w : World) (a0 : -9223372036854775808 <= a) (a1 : a < 9223372036854775808) (b0 : 0 < b) (b1 : b < 9223372036854775808) (h : a + b < 9223372036854775808) :
 Calls Tryz.prog 148 #[.int .i64 a, .int .i64 b] w fun r w' => r = .returned (.tuple #[.int .i64 (a + b), .int .i64 0]) /\ Below w.heap.size w w' := by
 have hmf : ∀ (fn : Fn) (first cap : Array Value) (w : World), (Instr.makeFunc fn first cap).run Tryz.prog w = .ok (.func fn first cap) w := fun _ _ _ _ => rfl
 have hb0 : ¬ b = 0 := by omega
 go_enter_defers Tryz.func148, Tryz.ntmps148
 go_wp2
 refine leaves_cons (f := 177) (args := #[.pointer (some ⟨w.heap.size + 1 + 1, 0, none⟩), .pointer (some ⟨w.heap.size, 0, none⟩), .pointer (some ⟨w.heap.size + 1, 0, none⟩), .pointer (some ⟨w.heap.size + 1 + 1 + 1, 0, none⟩)]) (by simp) (by simp [go_sem]) ?_
 refine (aTP _ _ _ _ (a + b) a b .returning _ (by simp [go_sem]) (by simp [go_sem]) (by simp [go_sem]) (by rw [decide_eq_true b0]; exact decide_eq_true (by omega))).mono ?_
 rintro e u' w'' ⟨rfl, rfl, rfl⟩
 simp [Leaves, settle, results, Tryz.results148, go_sem]
 exact ba (ba (ba (ba (Below.refl _ _) _) _) _) _
def LZ (y m k : Int) : Int × Int := ((12 * y + (m - 1) + k) / 12, (12 * y + (m - 1) + k) % 12 + 1)
theorem QL (y m k : Int) (w : World) (h0 : -10000000000000000 <= y) (h1 : y <= 10000000000000000) (m0 : 1 <= m) (m1 : m <= 12) (k0 : 0 < k) (k1 : k <= 12) (hz : (LZ y m k).1 <= 10000000000000000) :
 Calls Tryz.prog 158 #[.int .i64 y, .int .i64 m, .int .i64 k] w fun r w' => r = .returned (.tuple #[.int .i64 (LZ y m k).1, .int .i64 (LZ y m k).2, .int .i64 0]) /\ Below w.heap.size w w' := by
 have HC : Hid (∀ w : World, Calls Tryz.prog 162 #[.int .i64 y, .int .i64 m] w fun e w' => e = .returned (.int .i64 0) /\ w = w') := Lib.hid (by
  intro w; have := Un.iP y m w
  unfold Un.rC at this; rw [if_pos ⟨h0, h1⟩, if_pos ⟨m0, m1⟩] at this; exact this)
 have HA := Lib.hid (fun w => yG (12 * y + (m - 1)) k w (by omega) (by omega) k0 (by omega) (by omega))
 have hA1 : -9223372036854775808 <= 12 * y + (m - 1) + k := by omega
 have hA2 : 12 * y + (m - 1) + k < 9223372036854775808 := by omega
 have HD := Lib.hid (fun w => Un.rZ (12 * y + (m - 1) + k) 12 w (by omega) (by omega) hA1 hA2)
 have HM := Lib.hid (fun w => Un.FI (12 * y + (m - 1) + k) 12 w (by omega) (by omega) hA1 hA2)
 unfold LZ at *
 have g0 : -10000000000000000 <= (12 * y + (m - 1) + k) / 12 := by omega
 have g1 : (12 * y + (m - 1) + k) / 12 <= 10000000000000000 := hz
 have HY := Lib.hid (fun w => Un.fH ((12 * y + (m - 1) + k) / 12) w g0 g1)
 have g2 : 0 <= (12 * y + (m - 1) + k) % 12 := by omega
 have g3 : (12 * y + (m - 1) + k) % 12 < 12 := by omega
 clear hz g0 g1 hA1 hA2
 generalize (12 * y + (m - 1) + k) / 12 = q at *
 generalize (12 * y + (m - 1) + k) % 12 = r at *
 go_enter Tryz.func158, Tryz.ntmps158
 go_wp2_with (first
  | (go_at_call 162; with_reducible refine (HC.out _).mono ?_; rintro _ w' ⟨rfl, rfl⟩)
  | (go_at_call 148; with_reducible refine (HA.out _).mono ?_; rintro _ w' ⟨rfl, hb⟩)
  | (go_at_call 168; with_reducible refine (HD.out _).mono ?_; rintro _ w' ⟨rfl, rfl⟩)
  | (go_at_call 169; with_reducible refine (HM.out _).mono ?_; rintro _ w' ⟨rfl, rfl⟩)
  | (go_at_call 173; with_reducible refine (HY.out _).mono ?_; rintro _ w' ⟨rfl, rfl⟩))
 go_ret3
 exact ⟨rfl, hb⟩
theorem QM (y m k : Int) (w : World) (h0 : -10000000000000000 <= y) (h1 : y <= 10000000000000000) (m0 : 1 <= m) (m1 : m <= 12) (k0 : 0 < k) (k1 : k <= 12) (hz : 10000000000000000 < (LZ y m k).1) :
 Calls Tryz.prog 158 #[.int .i64 y, .int .i64 m, .int .i64 k] w fun r w' => r = .returned (.tuple #[.int .i64 0, .int .i64 0, .int .i64 6]) /\ Below w.heap.size w w' := by
 have HC : Hid (∀ w : World, Calls Tryz.prog 162 #[.int .i64 y, .int .i64 m] w fun e w' => e = .returned (.int .i64 0) /\ w = w') := Lib.hid (by
  intro w; have := Un.iP y m w
  unfold Un.rC at this; rw [if_pos ⟨h0, h1⟩, if_pos ⟨m0, m1⟩] at this; exact this)
 have HA := Lib.hid (fun w => yG (12 * y + (m - 1)) k w (by omega) (by omega) k0 (by omega) (by omega))
 have hA1 : -9223372036854775808 <= 12 * y + (m - 1) + k := by omega
 have hA2 : 12 * y + (m - 1) + k < 9223372036854775808 := by omega
 have HD := Lib.hid (fun w => Un.rZ (12 * y + (m - 1) + k) 12 w (by omega) (by omega) hA1 hA2)
 have HM := Lib.hid (fun w => Un.FI (12 * y + (m - 1) + k) 12 w (by omega) (by omega) hA1 hA2)
 unfold LZ at *
 have g1 : 10000000000000000 < (12 * y + (m - 1) + k) / 12 := hz
 have HY := Lib.hid (fun w => Un.jR ((12 * y + (m - 1) + k) / 12) w (.inr g1))
 clear hz g1 hA1 hA2
 generalize (12 * y + (m - 1) + k) / 12 = q at *
 generalize (12 * y + (m - 1) + k) % 12 = r at *
 go_enter Tryz.func158, Tryz.ntmps158
 go_wp2_with (first
  | (go_at_call 162; with_reducible refine (HC.out _).mono ?_; rintro _ w' ⟨rfl, rfl⟩)
  | (go_at_call 148; with_reducible refine (HA.out _).mono ?_; rintro _ w' ⟨rfl, hb⟩)
  | (go_at_call 168; with_reducible refine (HD.out _).mono ?_; rintro _ w' ⟨rfl, rfl⟩)
  | (go_at_call 169; with_reducible refine (HM.out _).mono ?_; rintro _ w' ⟨rfl, rfl⟩)
  | (go_at_call 173; with_reducible refine (HY.out _).mono ?_; rintro _ w' ⟨rfl, rfl⟩))
 go_ret3
 exact ⟨rfl, hb⟩
theorem aLr {c : Int} (h0 : 21 <= c) (h1 : c <= 41) : pO ((c - 21).toNat * 2) = eH c /\ pO ((c - 21).toNat * 2 + 1) = gQ c := by
 unfold pO
 have e : ((c - 21).toNat * 2) / 2 = (c - 21).toNat := by omega
 have e2 : ((c - 21).toNat * 2 + 1) / 2 = (c - 21).toNat := by omega
 have e3 : (21 : Int) + (((c - 21).toNat : Nat) : Int) = c := by omega
 constructor
 . rw [if_pos (by omega), show (21 : Int) + ((((c - 21).toNat * 2 : Nat) : Int) / 2) = c by omega]
 . rw [if_neg (by omega), show (21 : Int) + ((((c - 21).toNat * 2 + 1 : Nat) : Int) / 2) = c by omega]
theorem uG (c : Int) (w : World) (hk : qI w) (h0 : 21 <= c) (h1 : c <= 41) :
 Calls Tryz.prog 156 #[.int .i64 c] w fun r w' => r = .returned (.tuple #[.int .i64 (eH c), .int .i64 (gQ c), .int .i64 0]) /\ Below w.heap.size w w' := by
 have HC : Hid (∀ w : World, Calls Tryz.prog 130 #[.int .i64 c] w fun e w' => e = .returned (.int .i64 0) /\ w = w') := Lib.hid (by
  intro w; have := wY c w; rw [if_pos ⟨h0, h1⟩] at this; exact this)
 obtain ⟨n, rfl⟩ : ∃ n : Nat, c = (n : Int) + 21 := ⟨(c - 21).toNat, by omega⟩
 obtain ⟨e0, e1⟩ := aLr h0 h1
 rw [show ((n : Int) + 21 - 21).toNat = n by omega] at e0 e1
 have s0 := hk.span (n * 2) (by omega)
 have s1 := hk.span (n * 2 + 1) (by omega)
 rw [e0] at s0
 rw [e1] at s1
 clear e0 e1 hk
 have l0 : n < 21 := by omega
 generalize eH ((n : Int) + 21) = a at *
 generalize gQ ((n : Int) + 21) = b at *
 go_enter Tryz.func156, Tryz.ntmps156
 go_wp2_with (go_at_call 130; with_reducible refine (HC.out _).mono ?_; rintro _ w' ⟨rfl, rfl⟩)
 go_quiet (fail)
 go_wp2
 go_ret3
 exact ⟨rfl, below_drewN (ba (Below.refl _ _) _) _⟩
def Y4 (c : Int) : Int := if eH c + gQ c - 1 <= 12 then eH c + gQ c - 1 else eH c + gQ c - 13
def iG (y c : Int) : Int := if eH c + gQ c - 1 <= 12 then y else y + 1
def rv (lo hi : Int) : Value := .agg #[.int .i8 0, .int .i64 lo, .int .i8 0, .int .i64 hi]
theorem G7 (y c : Int) (w : World) (hk : qI w) (h0 : -10000000000000000 <= y) (h1 : y <= 10000000000000000) (c0 : 21 <= c) (c1 : c <= 41) (hz : iG y c <= 10000000000000000) :
 Calls Tryz.prog 134 #[.int .i64 y, .int .i64 c] w fun r w' => r = .returned (.tuple #[rv (st y + dW y (eH c)) (st (iG y c) + dW (iG y c) (Y4 c + 1) - 1), .int .i64 0]) /\ Below w.heap.size w w' := by
 have hf : 1 <= eH c /\ eH c <= 12 /\ 3 <= gQ c /\ gQ c <= 6 /\ eH c + gQ c <= 15 := by unfold eH gQ; (repeat' split) <;> omega
 have HM := Lib.hid (fun W hb => uG c W (hk.below (w' := W) hb) c0 c1)
 have HS := Lib.hid (fun W hb => Un.jG y (eH c) W (hk.below (w' := W) hb).cal h0 h1 hf.1 hf.2.1)
 have HA : Hid (∀ w : World, Calls Tryz.prog 158 #[.int .i64 y, .int .i64 (eH c), .int .i64 (gQ c - 1)] w fun r w' => r = .returned (.tuple #[.int .i64 (iG y c), .int .i64 (Y4 c), .int .i64 0]) /\ Below w.heap.size w w') := Lib.hid (by
  intro w
  have e : LZ y (eH c) (gQ c - 1) = (iG y c, Y4 c) := by
   unfold LZ iG Y4
   split <;> (refine Prod.ext ?_ ?_ <;> simp only [] <;> omega)
  have := QL y (eH c) (gQ c - 1) w h0 h1 hf.1 hf.2.1 (by omega) (by omega) (by rw [e]; exact hz)
  rw [e] at this; exact this)
 have y0 : -10000000000000000 <= iG y c := by unfold iG; split <;> omega
 have t0 : 1 <= Y4 c /\ Y4 c <= 12 := by unfold Y4; split <;> omega
 have HE := Lib.hid (fun W hb => Un.zJ (iG y c) (Y4 c) W (hk.below (w' := W) hb).cal y0 hz t0.1 t0.2)
 generalize st y + dW y (eH c) = lo at *
 generalize st (iG y c) + dW (iG y c) (Y4 c + 1) - 1 = hi at *
 obtain ⟨f0, f1, f2, f3, f4⟩ := hf
 generalize eH c = sf at *
 generalize gQ c = sm at *
 generalize iG y c = sy at *
 generalize Y4 c = so at *
 clear hk hz y0 t0
 unfold rv
 go_enter Tryz.func134, Tryz.ntmps134
 go_wp2_with fail
 refine (HM.out _ (ba (Below.refl _ _) _)).mono ?_; rintro _ w1 ⟨rfl, hb1⟩
 go_wp2_with fail
 refine (HS.out _ (bt (ba (Below.refl _ _) _) hb1)).mono ?_; rintro _ w2 ⟨rfl, hb2⟩
 go_wp2_with fail
 refine (HA.out _).mono ?_; rintro _ w3 ⟨rfl, hb3⟩
 go_wp2_with fail
 refine (HE.out _ (bt (bt (bt (ba (Below.refl _ _) _) hb1) hb2) hb3)).mono ?_; rintro _ w4 ⟨rfl, hb4⟩
 have hB := bt (bt (bt hb1 hb2) hb3) hb4
 obtain ⟨q0, q1, q2, q3, z0, z1, z2, z3⟩ := Un.fM hB
 go_wp2_with fail
 refine bodyPost_ret (v := .tuple #[.agg #[.int .i8 0, .int .i64 lo, .int .i8 0, .int .i64 hi], .int .i64 0]) (by simp [results, Tryz.results134, go_sem, q0, q1, q2, q3]) rfl ⟨rfl, ?_⟩
 exact ((((bt (ba (Below.refl _ _) _) hB).setCell (Nat.le_refl _) _).setCell (Nat.le_refl _) _).setCell (Nat.le_refl _) _).setCell (Nat.le_refl _) _
theorem ZU (y c : Int) (w : World) (hk : qI w) (h0 : -10000000000000000 <= y) (h1 : y <= 10000000000000000) (c0 : 21 <= c) (c1 : c <= 41) (hz : 10000000000000000 < iG y c) :
 Calls Tryz.prog 134 #[.int .i64 y, .int .i64 c] w fun r w' => r = .returned (.tuple #[rv 0 0, .int .i64 6]) /\ Below w.heap.size w w' := by
 have hf : 1 <= eH c /\ eH c <= 12 /\ 3 <= gQ c /\ gQ c <= 6 /\ eH c + gQ c <= 15 := by unfold eH gQ; (repeat' split) <;> omega
 have HM := Lib.hid (fun W hb => uG c W (hk.below (w' := W) hb) c0 c1)
 have HS := Lib.hid (fun W hb => Un.jG y (eH c) W (hk.below (w' := W) hb).cal h0 h1 hf.1 hf.2.1)
 have HA : Hid (∀ w : World, Calls Tryz.prog 158 #[.int .i64 y, .int .i64 (eH c), .int .i64 (gQ c - 1)] w fun r w' => r = .returned (.tuple #[.int .i64 0, .int .i64 0, .int .i64 6]) /\ Below w.heap.size w w') := Lib.hid (by
  intro w
  have e : (LZ y (eH c) (gQ c - 1)).1 = iG y c := by
   unfold LZ iG
   split <;> (simp only []; omega)
  exact QM y (eH c) (gQ c - 1) w h0 h1 hf.1 hf.2.1 (by omega) (by omega) (by rw [e]; exact hz))
 generalize st y + dW y (eH c) = lo at *
 obtain ⟨f0, f1, f2, f3, f4⟩ := hf
 generalize eH c = sf at *
 generalize gQ c = sm at *
 clear hk hz
 unfold rv
 go_enter Tryz.func134, Tryz.ntmps134
 go_wp2_with fail
 refine (HM.out _ (ba (Below.refl _ _) _)).mono ?_; rintro _ w1 ⟨rfl, hb1⟩
 go_wp2_with fail
 refine (HS.out _ (bt (ba (Below.refl _ _) _) hb1)).mono ?_; rintro _ w2 ⟨rfl, hb2⟩
 go_wp2_with fail
 refine (HA.out _).mono ?_; rintro _ w3 ⟨rfl, hb3⟩
 have hB := bt (bt hb1 hb2) hb3
 obtain ⟨q0, q1, q2, q3, z0, z1, z2, z3⟩ := Un.fM hB
 go_wp2_with fail
 refine bodyPost_ret (v := .tuple #[.agg #[.int .i8 0, .int .i64 0, .int .i8 0, .int .i64 0], .int .i64 6]) (by simp [results, Tryz.results134, go_sem, q0, q1, q2, q3]) rfl ⟨rfl, ?_⟩
 exact ((((bt (ba (Below.refl _ _) _) hB).setCell (Nat.le_refl _) _).setCell (Nat.le_refl _) _).setCell (Nat.le_refl _) _).setCell (Nat.le_refl _) _
end Bk
end
section
open Go.RowKit Go.Lib
namespace Bk
open Un (ba bt ri rb aX bP)
def bZ (d : Dt) : Value := .agg #[.bool d.neg, .bool d.long, .string d.dg, .int .i64 d.ex, .int .i64 d.sig, .string d.mo, .string d.da, .int .u8 d.m0, .int .u8 d.m1, .int .u8 d.m2]
structure Dm (p : Nat) (d : Dt) (w W : World) : Prop where
 c0 : W.cell? ⟨p, 0, none⟩ = some (.bool d.neg)
 c1 : W.cell? ⟨p, 1, none⟩ = some (.bool d.long)
 c2 : W.cell? ⟨p, 2, none⟩ = some (.string d.dg)
 c3 : W.cell? ⟨p, 3, none⟩ = some (.int .i64 d.ex)
 c4 : W.cell? ⟨p, 4, none⟩ = some (.int .i64 d.sig)
 c5 : W.cell? ⟨p, 5, none⟩ = some (.string d.mo)
 c6 : W.cell? ⟨p, 6, none⟩ = some (.string d.da)
 c7 : W.cell? ⟨p, 7, none⟩ = some (.int .u8 d.m0)
 c8 : W.cell? ⟨p, 8, none⟩ = some (.int .u8 d.m1)
 c9 : W.cell? ⟨p, 9, none⟩ = some (.int .u8 d.m2)
 below : Below w.heap.size w W
theorem Dm.later {p : Nat} {d : Dt} {w W W2 : World} (h : Dm p d w W) (hb : Below W.heap.size W W2) : Dm p d w W2 :=
 have g : ∀ {p : Addr} {v : Value}, W.cell? p = some v -> W2.cell? p = some v := fun {p v} hc => (hb.cell (World.block_lt_of_cell? _ _ hc)).trans hc
 ⟨g h.c0, g h.c1, g h.c2, g h.c3, g h.c4, g h.c5, g h.c6, g h.c7, g h.c8, g h.c9, bt h.below hb⟩
theorem Dm.new (d : Dt) (w : World) (t : TypeId) : Dm w.heap.size d w (w.alloc (.cells #[.bool d.neg, .bool d.long, .string d.dg, .int .i64 d.ex, .int .i64 d.sig, .string d.mo, .string d.da, .int .u8 d.m0, .int .u8 d.m1, .int .u8 d.m2] t)) := by
 refine ⟨?_, ?_, ?_, ?_, ?_, ?_, ?_, ?_, ?_, ?_, ba (Below.refl _ _) _⟩ <;> simp [go_sem]
theorem O7 {s : ByteArray} (h : ¬ s.size = 2) (n : Int) : jJ s n = false := by unfold jJ; rw [decide_eq_false h, Bool.false_and]
theorem GY {s : ByteArray} (h : ¬ s.size = 2) (g : Nat) : eG s g = false := by
 unfold eG; rw [List.any_eq_false]; intro i _; rw [O7 h]; decide
theorem aCs {s : ByteArray} (h : s.size = 2) (n : Int) : jJ s n = ((decide (((s[0]'(by omega)).toNat : Int) = 88) || decide (((s[0]'(by omega)).toNat : Int) = 48 + n / 10)) && (decide (((s[1]'(by omega)).toNat : Int) = 88) || decide (((s[1]'(by omega)).toNat : Int) = 48 + n % 10))) := by
 unfold jJ; rw [decide_eq_true h, Bool.true_and, bY s 0 (by omega), bY s 1 (by omega)]
theorem O6 {x0 x1 : Int} {q r : Int} {a0 a1 b0 b1 : Bool} (h0 : (x0 == 88) = a0) (h1 : (x0 == 48 + q) = a1) (h2 : (x1 == 88) = b0) (h3 : (x1 == 48 + r) = b1) :
 ((decide (x0 = 88) || decide (x0 = 48 + q)) && (decide (x1 = 88) || decide (x1 = 48 + r))) = ((a0 || a1) && (b0 || b1)) := by
 subst h0 h1 h2 h3; rfl
theorem KX (s : ByteArray) (g : Nat) (w : World) (hg : g <= 99) :
 Calls Tryz.prog 107 #[.string s, .int .i64 g] w fun r w' => r = .returned (.bool (eG s g)) /\ Below w.heap.size w w' := by
 by_cases c : s.size = 2
 case neg =>
  rw [GY c]
  go_enter Tryz.func107, Tryz.ntmps107
  go_wp2
  go_ret
  exact ⟨rfl, Below.refl _ _⟩
 have HA := Lib.hid (aCs c)
 have HM := Lib.hid (fun (k : Nat) (h : k < g) (ht : jJ s ((k : Int) + 1) = true) => (GZ (s := s) (g := k + 1) (h := g) (by omega) (by rw [rO, ht, Bool.or_true]) : eG s g = true))
 have HN := Lib.hid (fun (k : Nat) (h : eG s k = false) (ht : jJ s ((k : Int) + 1) = false) => (by rw [rO, h, ht]; rfl : eG s (k + 1) = false))
 have l0 : 0 < s.size := by omega
 have l1 : 1 < s.size := by omega
 go_enter Tryz.func107, Tryz.ntmps107
 go_wp2
 go_loopw [5] (fun i wr => ∃ k : Nat, k <= g /\ i = .int .i64 ((k : Int) + 1) /\ eG s k = false /\ Below w.heap.size w wr) (fun i _ => g + 1 - (intOf i).toNat)
 case atStart => exact ⟨0, Nat.zero_le _, rfl, rfl, Below.refl _ _⟩
 case round =>
  obtain ⟨k, hk, rfl, hz, hb⟩ := hrel
  by_cases hlt : k < g
  . have hA := HA.out ((k : Int) + 1)
    obtain ⟨a0, g0⟩ : ∃ b, (((s[0]'l0).toNat : Int) == 88) = b := ⟨_, rfl⟩
    obtain ⟨a1, g1⟩ : ∃ b, (((s[0]'l0).toNat : Int) == 48 + ((k : Int) + 1) / 10) = b := ⟨_, rfl⟩
    obtain ⟨b0, g2⟩ : ∃ b, (((s[1]'l1).toNat : Int) == 88) = b := ⟨_, rfl⟩
    obtain ⟨b1, g3⟩ : ∃ b, (((s[1]'l1).toNat : Int) == 48 + ((k : Int) + 1) % 10) = b := ⟨_, rfl⟩
    rw [O6 g0 g1 g2 g3] at hA
    have HB := Lib.hid hb
    have HZ := Lib.hid hz
    have HA2 := Lib.hid hA
    clear hb hz hA
    have q0 : 0 <= ((k : Int) + 1) / 10 := by omega
    have q1 : ((k : Int) + 1) / 10 <= 9 := by omega
    have r0 : 0 <= ((k : Int) + 1) % 10 := by omega
    have r1 : ((k : Int) + 1) % 10 <= 9 := by omega
    have HBt := Lib.hid (fun W (h : Below wr.heap.size wr W) => bt HB.out h)
    cases a0 <;> cases a1 <;> cases b0 <;> cases b1
    all_goals
     as_aux_lemma =>
      go_wp2
      go_quiet (fail)
      go_wp2
      first
      | (go_ret
         exact ⟨rb (HM.out k hlt HA2.out).symm, HBt.out _ (below_drewN (ba (Below.refl _ _) _) _)⟩)
      | (go_roundw
         case rel => exact ⟨k + 1, by omega, by go_num, HN.out k HZ.out HA2.out, HBt.out _ (below_drewN (ba (Below.refl _ _) _) _)⟩
         case measure => simp [intOf]; omega)
  . obtain rfl : k = g := by omega
    have HB := Lib.hid hb
    have HZ := Lib.hid hz
    clear hb hz
    go_wp2
    go_ret
    exact ⟨rb HZ.out.symm, HB.out⟩
theorem aEe (d : Dt) (w : World) :
 Calls Tryz.prog 109 #[bZ d] w fun r w' => r = .returned (.int .i64 (comps d.mo d.da)) /\ Below w.heap.size w w' := by
 have i0 : ∀ w, (Instr.index 182 (.agg #[.string d.mo, .string d.da]) (.int .i64 0)).run Tryz.prog w = .ok (.string d.mo) w := fun _ => by kernel_rfl
 have i1 : ∀ w, (Instr.index 182 (.agg #[.string d.mo, .string d.da]) (.int .i64 1)).run Tryz.prog w = .ok (.string d.da) w := fun _ => by kernel_rfl
 have hD := Dm.new d w 37
 obtain ⟨R, hR⟩ : ∃ R, R = comps d.mo d.da := ⟨_, rfl⟩
 rw [<- hR]
 unfold comps at hR
 unfold bZ
 rcases bQ d.mo with ⟨e0, m0⟩ | ⟨e0, m0⟩ <;> rcases bQ d.da with ⟨e1, m1⟩ | ⟨e1, m1⟩
 all_goals
  first | rw [if_pos e0] at hR | rw [if_neg e0] at hR
  first | rw [if_pos e1] at hR | rw [if_neg e1] at hR
  replace hR := Lib.hid hR
  clear e0 e1
  go_enter Tryz.func109, Tryz.ntmps109
  go_upto_region 1 with (fail)
  generalize w.alloc (.cells #[.bool d.neg, .bool d.long, .string d.dg, .int .i64 d.ex, .int .i64 d.sig, .string d.mo, .string d.da, .int .u8 d.m0, .int .u8 d.m1, .int .u8 d.m2] 37) = W0 at hD ⊢
  obtain ⟨q0, q1, q2, q3, q4, q5, q6, q7, q8, q9, qB⟩ := id hD
  go_wp2
  refine wp_loop_rounds 3 ?_
  rw [rounds_succ]
  go_wp2
  rw [rounds_succ]
  go_wp2
  rw [rounds_succ]
  go_wp2
  go_ret
  exact ⟨ri (by rw [hR.out]; rfl), hD.below⟩
theorem xR (d : Dt) (w : World) (hk : qI w) (hs : d.mo.size <= 1000) :
 Calls Tryz.prog 105 #[bZ d] w fun r w' => r = .returned (.tuple #[.int .i64 d.aH, .bool (!decide (d.aH = 0))]) /\ Below w.heap.size w w' := by
 have hD := Dm.new d w 37
 have HE : (∃ v, atoiAll d.mo.data.toList = .ok v) \/ ∀ v, atoiAll d.mo.data.toList ≠ .ok v := by
  cases h : atoiAll d.mo.data.toList
  . exact .inl ⟨_, rfl⟩
  . exact .inr (fun v e => by cases e)
  . exact .inr (fun v e => by cases e)
 unfold Dt.aH bZ
 rcases HE with ⟨v, hv⟩ | hv
 . have HA := Lib.hid (fun W => aKd d.mo v hv hs W)
   by_cases c : d.mo.size = 2
   . rw [YP c hv]
     have HC := fun W => wY v W
     clear hv
     by_cases cv : 21 <= v /\ v <= 41
     . rw [if_pos cv] at HC ⊢
       have ev : decide (v = 0) = false := decide_eq_false (by omega)
       rw [ev]
       replace HC := Lib.hid HC
       clear cv ev
       go_enter Tryz.func105, Tryz.ntmps105
       go_upto_region 1 with (fail)
       generalize w.alloc (.cells #[.bool d.neg, .bool d.long, .string d.dg, .int .i64 d.ex, .int .i64 d.sig, .string d.mo, .string d.da, .int .u8 d.m0, .int .u8 d.m1, .int .u8 d.m2] 37) = W0 at hD ⊢
       obtain ⟨q0, q1, q2, q3, q4, q5, q6, q7, q8, q9, qB⟩ := id hD
       go_wp2_with fail
       refine (HA.out _).mono ?_; rintro _ w1 ⟨rfl, hb⟩
       replace hD := hD.later hb; clear hb; obtain ⟨q0, q1, q2, q3, q4, q5, q6, q7, q8, q9, qB⟩ := id hD
       go_wp2_with (go_at_call 130; with_reducible refine (HC.out _).mono ?_; rintro _ w' ⟨rfl, rfl⟩)
       go_ret2
       exact ⟨rfl, hD.below⟩
     . rw [if_neg cv] at HC ⊢
       replace HC := Lib.hid HC
       clear cv
       go_enter Tryz.func105, Tryz.ntmps105
       go_upto_region 1 with (fail)
       generalize w.alloc (.cells #[.bool d.neg, .bool d.long, .string d.dg, .int .i64 d.ex, .int .i64 d.sig, .string d.mo, .string d.da, .int .u8 d.m0, .int .u8 d.m1, .int .u8 d.m2] 37) = W0 at hD ⊢
       obtain ⟨q0, q1, q2, q3, q4, q5, q6, q7, q8, q9, qB⟩ := id hD
       go_wp2_with fail
       refine (HA.out _).mono ?_; rintro _ w1 ⟨rfl, hb⟩
       replace hD := hD.later hb; clear hb; obtain ⟨q0, q1, q2, q3, q4, q5, q6, q7, q8, q9, qB⟩ := id hD
       go_wp2_with (go_at_call 130; with_reducible refine (HC.out _).mono ?_; rintro _ w' ⟨rfl, rfl⟩)
       go_ret2
       exact ⟨rfl, hD.below⟩
   . rw [uF c]
     clear hv
     have c2 : ((d.mo.size : Int) != 2) = true := by rw [bne_iff_ne]; omega
     clear c
     go_enter Tryz.func105, Tryz.ntmps105
     go_upto_region 1 with (fail)
     generalize w.alloc (.cells #[.bool d.neg, .bool d.long, .string d.dg, .int .i64 d.ex, .int .i64 d.sig, .string d.mo, .string d.da, .int .u8 d.m0, .int .u8 d.m1, .int .u8 d.m2] 37) = W0 at hD ⊢
     obtain ⟨q0, q1, q2, q3, q4, q5, q6, q7, q8, q9, qB⟩ := id hD
     go_wp2_with fail
     refine (HA.out _).mono ?_; rintro _ w1 ⟨rfl, hb⟩
     replace hD := hD.later hb; clear hb; obtain ⟨q0, q1, q2, q3, q4, q5, q6, q7, q8, q9, qB⟩ := id hD
     go_wp2_with fail
     go_ret2
     exact ⟨rfl, hD.below⟩
 . have HA := Lib.hid (fun W hb => aHD d.mo hv hs W (hk.below (w' := W) hb))
   rw [aEn hv]
   clear hv
   go_enter Tryz.func105, Tryz.ntmps105
   go_upto_region 1 with (fail)
   generalize w.alloc (.cells #[.bool d.neg, .bool d.long, .string d.dg, .int .i64 d.ex, .int .i64 d.sig, .string d.mo, .string d.da, .int .u8 d.m0, .int .u8 d.m1, .int .u8 d.m2] 37) = W0 at hD ⊢
   obtain ⟨q0, q1, q2, q3, q4, q5, q6, q7, q8, q9, qB⟩ := id hD
   go_wp2_with fail
   refine (HA.out _ hD.below).mono ?_; rintro _ w1 ⟨⟨x, t, p, rfl⟩, hb⟩
   replace hD := hD.later hb; clear hb; obtain ⟨q0, q1, q2, q3, q4, q5, q6, q7, q8, q9, qB⟩ := id hD
   go_wp2_with fail
   go_ret2
   exact ⟨rfl, hD.below⟩
end Bk
end
section
open Go.RowKit Go.Lib
namespace Bk
open Un (ba bt ri rb aX bP)
theorem PN {neg long : Bool} {s : ByteArray} {ex sig : Int} (hk : KZ neg long s ex sig = true) (hx : hasB 88 s = false) : -10000000000000000 <= yVal neg s ex /\ yVal neg s ex <= 10000000000000000 := by
 have h0 := lZ s ex
 have h1 : fO s ex <= 10000000000000000 := by
  cases long
  . obtain ⟨h1, h2, h3, _⟩ := iF hk
    have hd := (kT h2).1 hx
    have := pF hd h1
    have hz : fO s 0 = gB s := by unfold fO p10; simp
    rw [h3, hz]; omega
  . exact (jD hk).2.2.2.2.2.2.1
 unfold yVal
 split <;> omega
theorem MV (d : Dt) (w : World) (hk : qI w) (hs : d.mo.size <= 1000) (hy : d.dg.size <= 1000) :
 Calls Tryz.prog 106 #[bZ d] w fun r w' => r = .returned (.bool d.mO) /\ Below w.heap.size w w' := by
 have hD := Dm.new d w 37
 have hK := fun W => F6 d.neg d.long d.dg d.ex d.sig W hy
 have hS := fun W hb => xR d W (hk.below (w' := W) hb) hs
 have hM := fun W => lX d.neg d.long d.dg d.ex d.sig W
 obtain ⟨R, hR⟩ : ∃ R, R = d.mO := ⟨_, rfl⟩
 rw [<- hR]
 unfold Dt.mO Dt.far Dt.PK Dt.mask Dt.mag at hR
 unfold bZ at hS
 unfold yv at hK hM
 unfold bZ
 by_cases hok : KZ d.neg d.long d.dg d.ex d.sig = true
 case neg =>
  have hok : KZ d.neg d.long d.dg d.ex d.sig = false := by simpa using hok
  rw [hok] at hK hR
  have HK := Lib.hid hK
  replace hR := Lib.hid hR
  clear hK hS hM hok
  go_enter Tryz.func106, Tryz.ntmps106
  go_upto_region 1 with (fail)
  generalize w.alloc (.cells #[.bool d.neg, .bool d.long, .string d.dg, .int .i64 d.ex, .int .i64 d.sig, .string d.mo, .string d.da, .int .u8 d.m0, .int .u8 d.m1, .int .u8 d.m2] 37) = W0 at hD ⊢
  obtain ⟨q0, q1, q2, q3, q4, q5, q6, q7, q8, q9, qB⟩ := id hD
  go_wp2_with fail
  refine (HK.out _).mono ?_; rintro _ w1 ⟨rfl, hb⟩
  replace hD := hD.later hb; clear hb; obtain ⟨q0, q1, q2, q3, q4, q5, q6, q7, q8, q9, qB⟩ := id hD
  go_wp2_with fail
  go_ret
  exact ⟨rb (by rw [hR.out]; rfl), hD.below⟩
 rw [hok, Bool.true_and] at hR
 rw [hok] at hK
 have HK := Lib.hid hK
 clear hK
 rcases bQ d.mo with ⟨e0, m0⟩ | ⟨e0, m0⟩
 . have e1 : d.aH = 0 := uF (by omega)
   rw [decide_eq_true e0, e1] at hR
   rw [e1] at hS
   have HS := Lib.hid hS
   replace hR := Lib.hid hR
   clear hS hM e0 e1 hok
   have hRR : R = true := by rw [hR.out]; simp
   subst hRR
   clear hR
   by_cases c : 0 < d.sig
   all_goals
    go_enter Tryz.func106, Tryz.ntmps106
    go_upto_region 1 with (fail)
    generalize w.alloc (.cells #[.bool d.neg, .bool d.long, .string d.dg, .int .i64 d.ex, .int .i64 d.sig, .string d.mo, .string d.da, .int .u8 d.m0, .int .u8 d.m1, .int .u8 d.m2] 37) = W0 at hD ⊢
    obtain ⟨q0, q1, q2, q3, q4, q5, q6, q7, q8, q9, qB⟩ := id hD
    go_wp2_with fail
    refine (HK.out _).mono ?_; rintro _ w1 ⟨rfl, hb⟩
    replace hD := hD.later hb; clear hb; obtain ⟨q0, q1, q2, q3, q4, q5, q6, q7, q8, q9, qB⟩ := id hD
    go_wp2_with fail
    refine (HS.out _ hD.below).mono ?_; rintro _ w2 ⟨rfl, hb⟩
    replace hD := hD.later hb; clear hb; obtain ⟨q0, q1, q2, q3, q4, q5, q6, q7, q8, q9, qB⟩ := id hD
    go_wp2_with fail
    go_ret
    exact ⟨rb (rfl), hD.below⟩
 . rw [decide_eq_false e0] at hR
   by_cases c : 0 < d.sig
   . rw [decide_eq_true c] at hR
     replace hR := Lib.hid hR
     clear hS hM e0 hok
     go_enter Tryz.func106, Tryz.ntmps106
     go_upto_region 1 with (fail)
     generalize w.alloc (.cells #[.bool d.neg, .bool d.long, .string d.dg, .int .i64 d.ex, .int .i64 d.sig, .string d.mo, .string d.da, .int .u8 d.m0, .int .u8 d.m1, .int .u8 d.m2] 37) = W0 at hD ⊢
     obtain ⟨q0, q1, q2, q3, q4, q5, q6, q7, q8, q9, qB⟩ := id hD
     go_wp2_with fail
     refine (HK.out _).mono ?_; rintro _ w1 ⟨rfl, hb⟩
     replace hD := hD.later hb; clear hb; obtain ⟨q0, q1, q2, q3, q4, q5, q6, q7, q8, q9, qB⟩ := id hD
     go_wp2_with fail
     go_ret
     exact ⟨rb (by rw [hR.out]; rfl), hD.below⟩
   . rw [decide_eq_false c] at hR
     rcases jZ d.mo with e1 | ⟨s0, s1⟩
     . have e1 : d.aH = 0 := e1
       rw [e1] at hR hS
       have HS := Lib.hid hS
       replace hR := Lib.hid hR
       clear hS hM e0 e1 hok
       go_enter Tryz.func106, Tryz.ntmps106
       go_upto_region 1 with (fail)
       generalize w.alloc (.cells #[.bool d.neg, .bool d.long, .string d.dg, .int .i64 d.ex, .int .i64 d.sig, .string d.mo, .string d.da, .int .u8 d.m0, .int .u8 d.m1, .int .u8 d.m2] 37) = W0 at hD ⊢
       obtain ⟨q0, q1, q2, q3, q4, q5, q6, q7, q8, q9, qB⟩ := id hD
       go_wp2_with fail
       refine (HK.out _).mono ?_; rintro _ w1 ⟨rfl, hb⟩
       replace hD := hD.later hb; clear hb; obtain ⟨q0, q1, q2, q3, q4, q5, q6, q7, q8, q9, qB⟩ := id hD
       go_wp2_with fail
       refine (HS.out _ hD.below).mono ?_; rintro _ w2 ⟨rfl, hb⟩
       replace hD := hD.later hb; clear hb; obtain ⟨q0, q1, q2, q3, q4, q5, q6, q7, q8, q9, qB⟩ := id hD
       go_wp2_with fail
       go_ret
       exact ⟨rb (by rw [hR.out]; rfl), hD.below⟩
     . have s0 : 21 <= d.aH := s0
       have s1 : d.aH <= 41 := s1
       rw [show decide (d.aH = 0) = false from decide_eq_false (by omega)] at hS
       have HS := Lib.hid hS
       clear hS
       by_cases hx : hasB 88 d.dg = true
       . rw [hx] at hM hR
         have HM := Lib.hid hM
         have hRR : R = true := by rw [hR]; simp
         subst hRR
         clear hM hR e0 hok hx
         go_enter Tryz.func106, Tryz.ntmps106
         go_upto_region 1 with (fail)
         generalize w.alloc (.cells #[.bool d.neg, .bool d.long, .string d.dg, .int .i64 d.ex, .int .i64 d.sig, .string d.mo, .string d.da, .int .u8 d.m0, .int .u8 d.m1, .int .u8 d.m2] 37) = W0 at hD ⊢
         obtain ⟨q0, q1, q2, q3, q4, q5, q6, q7, q8, q9, qB⟩ := id hD
         go_wp2_with fail
         refine (HK.out _).mono ?_; rintro _ w1 ⟨rfl, hb⟩
         replace hD := hD.later hb; clear hb; obtain ⟨q0, q1, q2, q3, q4, q5, q6, q7, q8, q9, qB⟩ := id hD
         go_wp2_with fail
         refine (HS.out _ hD.below).mono ?_; rintro _ w2 ⟨rfl, hb⟩
         replace hD := hD.later hb; clear hb; obtain ⟨q0, q1, q2, q3, q4, q5, q6, q7, q8, q9, qB⟩ := id hD
         go_wp2_with fail
         refine (HM.out _).mono ?_; rintro _ w3 ⟨rfl, hb⟩
         replace hD := hD.later hb; clear hb; obtain ⟨q0, q1, q2, q3, q4, q5, q6, q7, q8, q9, qB⟩ := id hD
         go_wp2_with fail
         go_ret
         exact ⟨rb (rfl), hD.below⟩
       . have hx : hasB 88 d.dg = false := by simpa using hx
         rw [hx] at hM hR
         have HM := Lib.hid hM
         have hV := fun W => xM d.neg d.long d.dg d.ex d.sig W hy hok hx
         unfold yv at hV
         have HV := Lib.hid hV
         have hy0 : -10000000000000000 <= yVal d.neg d.dg d.ex /\ yVal d.neg d.dg d.ex <= 10000000000000000 := PN hok hx
         have hyv : (decide (fO d.dg d.ex = 10000000000000000) && !d.neg) = decide (yVal d.neg d.dg d.ex = 10000000000000000) := by
          have := lZ d.dg d.ex
          unfold yVal
          cases d.neg
          . rw [Bool.not_false, Bool.and_true]; rfl
          . rw [Bool.not_true, Bool.and_false]; symm; apply decide_eq_false; simp only [if_true]; omega
         rw [hyv] at hR
         clear hM hV hyv hok hx e0
         generalize yVal d.neg d.dg d.ex = y at *
         have aJm : ((decide (d.aH = 24) || (decide (d.aH = 28) || decide (d.aH = 30))) && decide (y = 10000000000000000)) = decide (10000000000000000 < iG y d.aH) := by
          unfold iG eH gQ
          generalize d.aH = c at *
          rw [Bool.eq_iff_iff]
          simp only [Bool.and_eq_true, Bool.or_eq_true, decide_eq_true_eq]
          constructor
          . rintro ⟨h | h | h, rfl⟩ <;> subst h <;> decide
          . intro h
            (repeat' split at h) <;> omega
         have hR2 : R = !decide (10000000000000000 < iG y d.aH) := by
          rw [hR, <- aJm]
          cases decide (y = 10000000000000000) <;> simp
         clear hR aJm
         by_cases cz : 10000000000000000 < iG y d.aH
         . rw [decide_eq_true cz] at hR2
           have HR := Lib.hid (fun W hb => ZU y d.aH W (hk.below (w' := W) hb) hy0.1 hy0.2 s0 s1 cz)
           unfold rv at HR
           replace hR2 := Lib.hid hR2
           clear cz hy0
           generalize d.aH = cc at *
           go_enter Tryz.func106, Tryz.ntmps106
           go_upto_region 1 with (fail)
           generalize w.alloc (.cells #[.bool d.neg, .bool d.long, .string d.dg, .int .i64 d.ex, .int .i64 d.sig, .string d.mo, .string d.da, .int .u8 d.m0, .int .u8 d.m1, .int .u8 d.m2] 37) = W0 at hD ⊢
           obtain ⟨q0, q1, q2, q3, q4, q5, q6, q7, q8, q9, qB⟩ := id hD
           go_wp2_with fail
           refine (HK.out _).mono ?_; rintro _ w1 ⟨rfl, hb⟩
           replace hD := hD.later hb; clear hb; obtain ⟨q0, q1, q2, q3, q4, q5, q6, q7, q8, q9, qB⟩ := id hD
           go_wp2_with fail
           refine (HS.out _ hD.below).mono ?_; rintro _ w2 ⟨rfl, hb⟩
           replace hD := hD.later hb; clear hb; obtain ⟨q0, q1, q2, q3, q4, q5, q6, q7, q8, q9, qB⟩ := id hD
           go_wp2_with fail
           refine (HM.out _).mono ?_; rintro _ w3 ⟨rfl, hb⟩
           replace hD := hD.later hb; clear hb; obtain ⟨q0, q1, q2, q3, q4, q5, q6, q7, q8, q9, qB⟩ := id hD
           go_wp2_with fail
           refine (HV.out _).mono ?_; rintro _ w4 ⟨rfl, hb⟩
           replace hD := hD.later hb; clear hb; obtain ⟨q0, q1, q2, q3, q4, q5, q6, q7, q8, q9, qB⟩ := id hD
           go_wp2_with fail
           refine (HR.out _ hD.below).mono ?_; rintro _ w5 ⟨rfl, hb⟩
           replace hD := hD.later hb; clear hb; obtain ⟨q0, q1, q2, q3, q4, q5, q6, q7, q8, q9, qB⟩ := id hD
           go_wp2_with fail
           go_ret
           exact ⟨rb (by rw [hR2.out]; rfl), ba hD.below _⟩
         . rw [decide_eq_false cz] at hR2
           have HR := Lib.hid (fun W hb => G7 y d.aH W (hk.below (w' := W) hb) hy0.1 hy0.2 s0 s1 (by omega))
           unfold rv at HR
           replace hR2 := Lib.hid hR2
           clear cz hy0
           generalize d.aH = cc at *
           go_enter Tryz.func106, Tryz.ntmps106
           go_upto_region 1 with (fail)
           generalize w.alloc (.cells #[.bool d.neg, .bool d.long, .string d.dg, .int .i64 d.ex, .int .i64 d.sig, .string d.mo, .string d.da, .int .u8 d.m0, .int .u8 d.m1, .int .u8 d.m2] 37) = W0 at hD ⊢
           obtain ⟨q0, q1, q2, q3, q4, q5, q6, q7, q8, q9, qB⟩ := id hD
           go_wp2_with fail
           refine (HK.out _).mono ?_; rintro _ w1 ⟨rfl, hb⟩
           replace hD := hD.later hb; clear hb; obtain ⟨q0, q1, q2, q3, q4, q5, q6, q7, q8, q9, qB⟩ := id hD
           go_wp2_with fail
           refine (HS.out _ hD.below).mono ?_; rintro _ w2 ⟨rfl, hb⟩
           replace hD := hD.later hb; clear hb; obtain ⟨q0, q1, q2, q3, q4, q5, q6, q7, q8, q9, qB⟩ := id hD
           go_wp2_with fail
           refine (HM.out _).mono ?_; rintro _ w3 ⟨rfl, hb⟩
           replace hD := hD.later hb; clear hb; obtain ⟨q0, q1, q2, q3, q4, q5, q6, q7, q8, q9, qB⟩ := id hD
           go_wp2_with fail
           refine (HV.out _).mono ?_; rintro _ w4 ⟨rfl, hb⟩
           replace hD := hD.later hb; clear hb; obtain ⟨q0, q1, q2, q3, q4, q5, q6, q7, q8, q9, qB⟩ := id hD
           go_wp2_with fail
           refine (HR.out _ hD.below).mono ?_; rintro _ w5 ⟨rfl, hb⟩
           replace hD := hD.later hb; clear hb; obtain ⟨q0, q1, q2, q3, q4, q5, q6, q7, q8, q9, qB⟩ := id hD
           go_wp2_with fail
           go_ret
           exact ⟨rb (by rw [hR2.out]; rfl), ba hD.below _⟩
end Bk
end
section
open Go.RowKit Go.Lib
namespace Bk
open Un (ba bt ri rb aX bP)
theorem Dm.drew' {p : Nat} {d : Dt} {w W : World} (h : Dm p d w W) : Dm p d w W.drew := h.later (Below.refl _ _).drew
theorem Dm.S {p : Nat} {d : Dt} {w w' : World} (h : Dm p d w w') : w'.cell? ⟨p, 0, none⟩ = some (.bool d.neg) /\ w'.cell? ⟨p, 1, none⟩ = some (.bool d.long) /\ w'.cell? ⟨p, 2, none⟩ = some (.string d.dg) /\ w'.cell? ⟨p, 3, none⟩ = some (.int .i64 d.ex) /\ w'.cell? ⟨p, 4, none⟩ = some (.int .i64 d.sig) /\ w'.cell? ⟨p, 5, none⟩ = some (.string d.mo) /\ w'.cell? ⟨p, 6, none⟩ = some (.string d.da) /\ w'.cell? ⟨p, 7, none⟩ = some (.int .u8 d.m0) /\ w'.cell? ⟨p, 8, none⟩ = some (.int .u8 d.m1) /\ w'.cell? ⟨p, 9, none⟩ = some (.int .u8 d.m2) /\ Dm p d w w' := ⟨h.c0, h.c1, h.c2, h.c3, h.c4, h.c5, h.c6, h.c7, h.c8, h.c9, h⟩
theorem AO (a b : ByteArray) : 1 <= comps a b /\ comps a b <= 3 := by unfold comps; (repeat' split) <;> omega
theorem aA2 (d : Dt) (w : World) (hk : qI w) (hs : d.mo.size <= 1000) (hy : d.dg.size <= 1000) (m0 : 0 <= d.m0) (m1 : 0 <= d.m1) (m2 : 0 <= d.m2) :
 Calls Tryz.prog 81 #[bZ d] w fun r w' => r = .returned (.int .i64 d.form) /\ Below w.heap.size w w' := by
 have hD := Dm.new d w 37
 have hS := fun W hb => xR d W (hk.below (w' := W) hb) hs
 have hY := fun W hb => MV d W (hk.below (w' := W) hb) hs hy
 have hA := fun W => KX d.mo 12 W (by omega)
 have hB := fun W => KX d.da 31 W (by omega)
 have hC := fun W => aEe d W
 have hM := fun W => QV d.m0 d.m1 d.m2 (comps d.mo d.da) W m0 m1 m2 (AO _ _).1 (AO _ _).2
 obtain ⟨R, hR⟩ : ∃ R, R = d.form := ⟨_, rfl⟩
 rw [<- hR]
 unfold Dt.form at hR
 unfold bZ at hS hY hC
 unfold bZ
 generalize d.mO = yo at *
 generalize eG d.mo 12 = a12 at *
 generalize eG d.da 31 = a31 at *
 generalize eY d.m0 d.m1 d.m2 (comps d.mo d.da) = mk at *
 generalize comps d.mo d.da = n at *
 rw [<- aCb, <- aCb] at hR
 generalize d.aH = sc at *
 obtain ⟨z, hz⟩ : ∃ z, z = decide (sc = 0) := ⟨_, rfl⟩
 rw [<- hz] at hR hS
 clear hz
 obtain ⟨me, hme⟩ : ∃ z, d.mo.toList.isEmpty = z := ⟨_, rfl⟩
 obtain ⟨de, hde⟩ : ∃ z, d.da.toList.isEmpty = z := ⟨_, rfl⟩
 rw [hme, hde] at hR
 have HC := Lib.hid hC
 have HM := Lib.hid hM
 clear hC hM
 cases yo
 . as_aux_lemma =>
    have HS := Lib.hid hS; have HY := Lib.hid hY; have HA := Lib.hid hA; have HB := Lib.hid hB
    clear hS hY hA hB
    replace hR := Lib.hid hR
    clear hme hde
    go_enter Tryz.func81, Tryz.ntmps81
    go_upto_region 1 with (fail)
    generalize w.alloc (.cells #[.bool d.neg, .bool d.long, .string d.dg, .int .i64 d.ex, .int .i64 d.sig, .string d.mo, .string d.da, .int .u8 d.m0, .int .u8 d.m1, .int .u8 d.m2] 37) = W0 at hD ⊢
    obtain ⟨q0, q1, q2, q3, q4, q5, q6, q7, q8, q9, qB⟩ := id hD
    go_wp2_with fail
    refine (HS.out _ hD.below).mono ?_; rintro _ w2 ⟨rfl, hb⟩
    replace hD := hD.later hb; clear hb; obtain ⟨q0, q1, q2, q3, q4, q5, q6, q7, q8, q9, qB⟩ := id hD
    go_wp2_with fail
    refine (HY.out _ hD.below).mono ?_; rintro _ w3 ⟨rfl, hb⟩
    replace hD := hD.later hb; clear hb; obtain ⟨q0, q1, q2, q3, q4, q5, q6, q7, q8, q9, qB⟩ := id hD
    go_wp2_with fail
    go_ret
    exact ⟨ri (by rw [hR.out]; rfl), hD.below⟩
 cases me
 . cases z
   . cases de
     . as_aux_lemma =>
        have HS := Lib.hid hS; have HY := Lib.hid hY; have HA := Lib.hid hA; have HB := Lib.hid hB
        clear hS hY hA hB
        replace hR := Lib.hid hR
        go_enter Tryz.func81, Tryz.ntmps81
        go_upto_region 1 with (fail)
        generalize w.alloc (.cells #[.bool d.neg, .bool d.long, .string d.dg, .int .i64 d.ex, .int .i64 d.sig, .string d.mo, .string d.da, .int .u8 d.m0, .int .u8 d.m1, .int .u8 d.m2] 37) = W0 at hD ⊢
        obtain ⟨q0, q1, q2, q3, q4, q5, q6, q7, q8, q9, qB⟩ := id hD
        go_wp2_with fail
        refine (HS.out _ hD.below).mono ?_; rintro _ w2 ⟨rfl, hb⟩
        replace hD := hD.later hb; clear hb; obtain ⟨q0, q1, q2, q3, q4, q5, q6, q7, q8, q9, qB⟩ := id hD
        go_wp2_with fail
        refine (HY.out _ hD.below).mono ?_; rintro _ w3 ⟨rfl, hb⟩
        replace hD := hD.later hb; clear hb; obtain ⟨q0, q1, q2, q3, q4, q5, q6, q7, q8, q9, qB⟩ := id hD
        go_wp2_with fail
        go_ret
        exact ⟨ri (by rw [hR.out]; rfl), hD.below⟩
     . as_aux_lemma =>
        have HS := Lib.hid hS; have HY := Lib.hid hY; have HA := Lib.hid hA; have HB := Lib.hid hB
        clear hS hY hA hB
        replace hR := Lib.hid hR
        go_enter Tryz.func81, Tryz.ntmps81
        go_upto_region 1 with (fail)
        generalize w.alloc (.cells #[.bool d.neg, .bool d.long, .string d.dg, .int .i64 d.ex, .int .i64 d.sig, .string d.mo, .string d.da, .int .u8 d.m0, .int .u8 d.m1, .int .u8 d.m2] 37) = W0 at hD ⊢
        obtain ⟨q0, q1, q2, q3, q4, q5, q6, q7, q8, q9, qB⟩ := id hD
        go_wp2_with fail
        refine (HS.out _ hD.below).mono ?_; rintro _ w2 ⟨rfl, hb⟩
        replace hD := hD.later hb; clear hb; obtain ⟨q0, q1, q2, q3, q4, q5, q6, q7, q8, q9, qB⟩ := id hD
        go_wp2_with fail
        refine (HY.out _ hD.below).mono ?_; rintro _ w3 ⟨rfl, hb⟩
        replace hD := hD.later hb; clear hb; obtain ⟨q0, q1, q2, q3, q4, q5, q6, q7, q8, q9, qB⟩ := id hD
        have hE := Lib.hid hD.drew'
        go_wp2_with fail
        go_region_held3 (fun w' => w'.cell? ⟨w.heap.size, 0, none⟩ = some (.bool d.neg) /\ w'.cell? ⟨w.heap.size, 1, none⟩ = some (.bool d.long) /\ w'.cell? ⟨w.heap.size, 2, none⟩ = some (.string d.dg) /\ w'.cell? ⟨w.heap.size, 3, none⟩ = some (.int .i64 d.ex) /\ w'.cell? ⟨w.heap.size, 4, none⟩ = some (.int .i64 d.sig) /\ w'.cell? ⟨w.heap.size, 5, none⟩ = some (.string d.mo) /\ w'.cell? ⟨w.heap.size, 6, none⟩ = some (.string d.da) /\ w'.cell? ⟨w.heap.size, 7, none⟩ = some (.int .u8 d.m0) /\ w'.cell? ⟨w.heap.size, 8, none⟩ = some (.int .u8 d.m1) /\ w'.cell? ⟨w.heap.size, 9, none⟩ = some (.int .u8 d.m2) /\ Dm w.heap.size d w w') (first | exact hE.out.S | exact (hE.out.later hb2).S | (have hk := ‹_ /\ _ /\ _ /\ _ /\ _ /\ _ /\ _ /\ _ /\ _ /\ _ /\ Dm _ _ _ _›; exact (hk.2.2.2.2.2.2.2.2.2.2.later hb2).S) | (have hk := ‹_ /\ _ /\ _ /\ _ /\ _ /\ _ /\ _ /\ _ /\ _ /\ _ /\ Dm _ _ _ _›; exact hk.2.2.2.2.2.2.2.2.2.2.drew'.S) | assumption) ((first | (go_at_call 109; with_reducible refine (HC.out _).mono ?_; rintro _ w6 ⟨rfl, hb2⟩) | (go_at_call 108; with_reducible refine (HM.out _).mono ?_; rintro _ w7 ⟨rfl, hb2⟩)))
        rename_i hk
        have hF := Lib.hid hk.2.2.2.2.2.2.2.2.2.2
        clear hk
        go_wp2_with fail
        go_ret
        exact ⟨ri (by rw [hR.out]; rfl), hF.out.below⟩
   . cases a12
     . as_aux_lemma =>
        have HS := Lib.hid hS; have HY := Lib.hid hY; have HA := Lib.hid hA; have HB := Lib.hid hB
        clear hS hY hA hB
        replace hR := Lib.hid hR
        go_enter Tryz.func81, Tryz.ntmps81
        go_upto_region 1 with (fail)
        generalize w.alloc (.cells #[.bool d.neg, .bool d.long, .string d.dg, .int .i64 d.ex, .int .i64 d.sig, .string d.mo, .string d.da, .int .u8 d.m0, .int .u8 d.m1, .int .u8 d.m2] 37) = W0 at hD ⊢
        obtain ⟨q0, q1, q2, q3, q4, q5, q6, q7, q8, q9, qB⟩ := id hD
        go_wp2_with fail
        refine (HS.out _ hD.below).mono ?_; rintro _ w2 ⟨rfl, hb⟩
        replace hD := hD.later hb; clear hb; obtain ⟨q0, q1, q2, q3, q4, q5, q6, q7, q8, q9, qB⟩ := id hD
        go_wp2_with fail
        refine (HY.out _ hD.below).mono ?_; rintro _ w3 ⟨rfl, hb⟩
        replace hD := hD.later hb; clear hb; obtain ⟨q0, q1, q2, q3, q4, q5, q6, q7, q8, q9, qB⟩ := id hD
        go_wp2_with fail
        refine (HA.out _).mono ?_; rintro _ w4 ⟨rfl, hb⟩
        replace hD := hD.later hb; clear hb; obtain ⟨q0, q1, q2, q3, q4, q5, q6, q7, q8, q9, qB⟩ := id hD
        go_wp2_with fail
        go_ret
        exact ⟨ri (by rw [hR.out]; rfl), hD.below⟩
     . cases de
       . cases a31
         . as_aux_lemma =>
            have HS := Lib.hid hS; have HY := Lib.hid hY; have HA := Lib.hid hA; have HB := Lib.hid hB
            clear hS hY hA hB
            replace hR := Lib.hid hR
            go_enter Tryz.func81, Tryz.ntmps81
            go_upto_region 1 with (fail)
            generalize w.alloc (.cells #[.bool d.neg, .bool d.long, .string d.dg, .int .i64 d.ex, .int .i64 d.sig, .string d.mo, .string d.da, .int .u8 d.m0, .int .u8 d.m1, .int .u8 d.m2] 37) = W0 at hD ⊢
            obtain ⟨q0, q1, q2, q3, q4, q5, q6, q7, q8, q9, qB⟩ := id hD
            go_wp2_with fail
            refine (HS.out _ hD.below).mono ?_; rintro _ w2 ⟨rfl, hb⟩
            replace hD := hD.later hb; clear hb; obtain ⟨q0, q1, q2, q3, q4, q5, q6, q7, q8, q9, qB⟩ := id hD
            go_wp2_with fail
            refine (HY.out _ hD.below).mono ?_; rintro _ w3 ⟨rfl, hb⟩
            replace hD := hD.later hb; clear hb; obtain ⟨q0, q1, q2, q3, q4, q5, q6, q7, q8, q9, qB⟩ := id hD
            go_wp2_with fail
            refine (HA.out _).mono ?_; rintro _ w4 ⟨rfl, hb⟩
            replace hD := hD.later hb; clear hb; obtain ⟨q0, q1, q2, q3, q4, q5, q6, q7, q8, q9, qB⟩ := id hD
            go_wp2_with fail
            refine (HB.out _).mono ?_; rintro _ w5 ⟨rfl, hb⟩
            replace hD := hD.later hb; clear hb; obtain ⟨q0, q1, q2, q3, q4, q5, q6, q7, q8, q9, qB⟩ := id hD
            go_wp2_with fail
            go_ret
            exact ⟨ri (by rw [hR.out]; rfl), hD.below⟩
         . as_aux_lemma =>
            have HS := Lib.hid hS; have HY := Lib.hid hY; have HA := Lib.hid hA; have HB := Lib.hid hB
            clear hS hY hA hB
            replace hR := Lib.hid hR
            go_enter Tryz.func81, Tryz.ntmps81
            go_upto_region 1 with (fail)
            generalize w.alloc (.cells #[.bool d.neg, .bool d.long, .string d.dg, .int .i64 d.ex, .int .i64 d.sig, .string d.mo, .string d.da, .int .u8 d.m0, .int .u8 d.m1, .int .u8 d.m2] 37) = W0 at hD ⊢
            obtain ⟨q0, q1, q2, q3, q4, q5, q6, q7, q8, q9, qB⟩ := id hD
            go_wp2_with fail
            refine (HS.out _ hD.below).mono ?_; rintro _ w2 ⟨rfl, hb⟩
            replace hD := hD.later hb; clear hb; obtain ⟨q0, q1, q2, q3, q4, q5, q6, q7, q8, q9, qB⟩ := id hD
            go_wp2_with fail
            refine (HY.out _ hD.below).mono ?_; rintro _ w3 ⟨rfl, hb⟩
            replace hD := hD.later hb; clear hb; obtain ⟨q0, q1, q2, q3, q4, q5, q6, q7, q8, q9, qB⟩ := id hD
            go_wp2_with fail
            refine (HA.out _).mono ?_; rintro _ w4 ⟨rfl, hb⟩
            replace hD := hD.later hb; clear hb; obtain ⟨q0, q1, q2, q3, q4, q5, q6, q7, q8, q9, qB⟩ := id hD
            go_wp2_with fail
            refine (HB.out _).mono ?_; rintro _ w5 ⟨rfl, hb⟩
            replace hD := hD.later hb; clear hb; obtain ⟨q0, q1, q2, q3, q4, q5, q6, q7, q8, q9, qB⟩ := id hD
            have hE := Lib.hid hD.drew'
            go_wp2_with fail
            go_region_held3 (fun w' => w'.cell? ⟨w.heap.size, 0, none⟩ = some (.bool d.neg) /\ w'.cell? ⟨w.heap.size, 1, none⟩ = some (.bool d.long) /\ w'.cell? ⟨w.heap.size, 2, none⟩ = some (.string d.dg) /\ w'.cell? ⟨w.heap.size, 3, none⟩ = some (.int .i64 d.ex) /\ w'.cell? ⟨w.heap.size, 4, none⟩ = some (.int .i64 d.sig) /\ w'.cell? ⟨w.heap.size, 5, none⟩ = some (.string d.mo) /\ w'.cell? ⟨w.heap.size, 6, none⟩ = some (.string d.da) /\ w'.cell? ⟨w.heap.size, 7, none⟩ = some (.int .u8 d.m0) /\ w'.cell? ⟨w.heap.size, 8, none⟩ = some (.int .u8 d.m1) /\ w'.cell? ⟨w.heap.size, 9, none⟩ = some (.int .u8 d.m2) /\ Dm w.heap.size d w w') (first | exact hE.out.S | exact (hE.out.later hb2).S | (have hk := ‹_ /\ _ /\ _ /\ _ /\ _ /\ _ /\ _ /\ _ /\ _ /\ _ /\ Dm _ _ _ _›; exact (hk.2.2.2.2.2.2.2.2.2.2.later hb2).S) | (have hk := ‹_ /\ _ /\ _ /\ _ /\ _ /\ _ /\ _ /\ _ /\ _ /\ _ /\ Dm _ _ _ _›; exact hk.2.2.2.2.2.2.2.2.2.2.drew'.S) | assumption) ((first | (go_at_call 109; with_reducible refine (HC.out _).mono ?_; rintro _ w6 ⟨rfl, hb2⟩) | (go_at_call 108; with_reducible refine (HM.out _).mono ?_; rintro _ w7 ⟨rfl, hb2⟩)))
            rename_i hk
            have hF := Lib.hid hk.2.2.2.2.2.2.2.2.2.2
            clear hk
            go_wp2_with fail
            go_ret
            exact ⟨ri (by rw [hR.out]; rfl), hF.out.below⟩
       . as_aux_lemma =>
          have HS := Lib.hid hS; have HY := Lib.hid hY; have HA := Lib.hid hA; have HB := Lib.hid hB
          clear hS hY hA hB
          replace hR := Lib.hid hR
          go_enter Tryz.func81, Tryz.ntmps81
          go_upto_region 1 with (fail)
          generalize w.alloc (.cells #[.bool d.neg, .bool d.long, .string d.dg, .int .i64 d.ex, .int .i64 d.sig, .string d.mo, .string d.da, .int .u8 d.m0, .int .u8 d.m1, .int .u8 d.m2] 37) = W0 at hD ⊢
          obtain ⟨q0, q1, q2, q3, q4, q5, q6, q7, q8, q9, qB⟩ := id hD
          go_wp2_with fail
          refine (HS.out _ hD.below).mono ?_; rintro _ w2 ⟨rfl, hb⟩
          replace hD := hD.later hb; clear hb; obtain ⟨q0, q1, q2, q3, q4, q5, q6, q7, q8, q9, qB⟩ := id hD
          go_wp2_with fail
          refine (HY.out _ hD.below).mono ?_; rintro _ w3 ⟨rfl, hb⟩
          replace hD := hD.later hb; clear hb; obtain ⟨q0, q1, q2, q3, q4, q5, q6, q7, q8, q9, qB⟩ := id hD
          go_wp2_with fail
          refine (HA.out _).mono ?_; rintro _ w4 ⟨rfl, hb⟩
          replace hD := hD.later hb; clear hb; obtain ⟨q0, q1, q2, q3, q4, q5, q6, q7, q8, q9, qB⟩ := id hD
          have hE := Lib.hid hD.drew'
          go_wp2_with fail
          go_region_held3 (fun w' => w'.cell? ⟨w.heap.size, 0, none⟩ = some (.bool d.neg) /\ w'.cell? ⟨w.heap.size, 1, none⟩ = some (.bool d.long) /\ w'.cell? ⟨w.heap.size, 2, none⟩ = some (.string d.dg) /\ w'.cell? ⟨w.heap.size, 3, none⟩ = some (.int .i64 d.ex) /\ w'.cell? ⟨w.heap.size, 4, none⟩ = some (.int .i64 d.sig) /\ w'.cell? ⟨w.heap.size, 5, none⟩ = some (.string d.mo) /\ w'.cell? ⟨w.heap.size, 6, none⟩ = some (.string d.da) /\ w'.cell? ⟨w.heap.size, 7, none⟩ = some (.int .u8 d.m0) /\ w'.cell? ⟨w.heap.size, 8, none⟩ = some (.int .u8 d.m1) /\ w'.cell? ⟨w.heap.size, 9, none⟩ = some (.int .u8 d.m2) /\ Dm w.heap.size d w w') (first | exact hE.out.S | exact (hE.out.later hb2).S | (have hk := ‹_ /\ _ /\ _ /\ _ /\ _ /\ _ /\ _ /\ _ /\ _ /\ _ /\ Dm _ _ _ _›; exact (hk.2.2.2.2.2.2.2.2.2.2.later hb2).S) | (have hk := ‹_ /\ _ /\ _ /\ _ /\ _ /\ _ /\ _ /\ _ /\ _ /\ _ /\ Dm _ _ _ _›; exact hk.2.2.2.2.2.2.2.2.2.2.drew'.S) | assumption) ((first | (go_at_call 109; with_reducible refine (HC.out _).mono ?_; rintro _ w6 ⟨rfl, hb2⟩) | (go_at_call 108; with_reducible refine (HM.out _).mono ?_; rintro _ w7 ⟨rfl, hb2⟩)))
          rename_i hk
          have hF := Lib.hid hk.2.2.2.2.2.2.2.2.2.2
          clear hk
          go_wp2_with fail
          go_ret
          exact ⟨ri (by rw [hR.out]; rfl), hF.out.below⟩
 . cases de
   . as_aux_lemma =>
      have HS := Lib.hid hS; have HY := Lib.hid hY; have HA := Lib.hid hA; have HB := Lib.hid hB
      clear hS hY hA hB
      replace hR := Lib.hid hR
      go_enter Tryz.func81, Tryz.ntmps81
      go_upto_region 1 with (fail)
      generalize w.alloc (.cells #[.bool d.neg, .bool d.long, .string d.dg, .int .i64 d.ex, .int .i64 d.sig, .string d.mo, .string d.da, .int .u8 d.m0, .int .u8 d.m1, .int .u8 d.m2] 37) = W0 at hD ⊢
      obtain ⟨q0, q1, q2, q3, q4, q5, q6, q7, q8, q9, qB⟩ := id hD
      go_wp2_with fail
      refine (HS.out _ hD.below).mono ?_; rintro _ w2 ⟨rfl, hb⟩
      replace hD := hD.later hb; clear hb; obtain ⟨q0, q1, q2, q3, q4, q5, q6, q7, q8, q9, qB⟩ := id hD
      go_wp2_with fail
      refine (HY.out _ hD.below).mono ?_; rintro _ w3 ⟨rfl, hb⟩
      replace hD := hD.later hb; clear hb; obtain ⟨q0, q1, q2, q3, q4, q5, q6, q7, q8, q9, qB⟩ := id hD
      go_wp2_with fail
      go_ret
      exact ⟨ri (by rw [hR.out]; rfl), hD.below⟩
   . as_aux_lemma =>
      have HS := Lib.hid hS; have HY := Lib.hid hY; have HA := Lib.hid hA; have HB := Lib.hid hB
      clear hS hY hA hB
      replace hR := Lib.hid hR
      go_enter Tryz.func81, Tryz.ntmps81
      go_upto_region 1 with (fail)
      generalize w.alloc (.cells #[.bool d.neg, .bool d.long, .string d.dg, .int .i64 d.ex, .int .i64 d.sig, .string d.mo, .string d.da, .int .u8 d.m0, .int .u8 d.m1, .int .u8 d.m2] 37) = W0 at hD ⊢
      obtain ⟨q0, q1, q2, q3, q4, q5, q6, q7, q8, q9, qB⟩ := id hD
      go_wp2_with fail
      refine (HS.out _ hD.below).mono ?_; rintro _ w2 ⟨rfl, hb⟩
      replace hD := hD.later hb; clear hb; obtain ⟨q0, q1, q2, q3, q4, q5, q6, q7, q8, q9, qB⟩ := id hD
      go_wp2_with fail
      refine (HY.out _ hD.below).mono ?_; rintro _ w3 ⟨rfl, hb⟩
      replace hD := hD.later hb; clear hb; obtain ⟨q0, q1, q2, q3, q4, q5, q6, q7, q8, q9, qB⟩ := id hD
      have hE := Lib.hid hD.drew'
      go_wp2_with fail
      go_region_held3 (fun w' => w'.cell? ⟨w.heap.size, 0, none⟩ = some (.bool d.neg) /\ w'.cell? ⟨w.heap.size, 1, none⟩ = some (.bool d.long) /\ w'.cell? ⟨w.heap.size, 2, none⟩ = some (.string d.dg) /\ w'.cell? ⟨w.heap.size, 3, none⟩ = some (.int .i64 d.ex) /\ w'.cell? ⟨w.heap.size, 4, none⟩ = some (.int .i64 d.sig) /\ w'.cell? ⟨w.heap.size, 5, none⟩ = some (.string d.mo) /\ w'.cell? ⟨w.heap.size, 6, none⟩ = some (.string d.da) /\ w'.cell? ⟨w.heap.size, 7, none⟩ = some (.int .u8 d.m0) /\ w'.cell? ⟨w.heap.size, 8, none⟩ = some (.int .u8 d.m1) /\ w'.cell? ⟨w.heap.size, 9, none⟩ = some (.int .u8 d.m2) /\ Dm w.heap.size d w w') (first | exact hE.out.S | exact (hE.out.later hb2).S | (have hk := ‹_ /\ _ /\ _ /\ _ /\ _ /\ _ /\ _ /\ _ /\ _ /\ _ /\ Dm _ _ _ _›; exact (hk.2.2.2.2.2.2.2.2.2.2.later hb2).S) | (have hk := ‹_ /\ _ /\ _ /\ _ /\ _ /\ _ /\ _ /\ _ /\ _ /\ _ /\ Dm _ _ _ _›; exact hk.2.2.2.2.2.2.2.2.2.2.drew'.S) | assumption) ((first | (go_at_call 109; with_reducible refine (HC.out _).mono ?_; rintro _ w6 ⟨rfl, hb2⟩) | (go_at_call 108; with_reducible refine (HM.out _).mono ?_; rintro _ w7 ⟨rfl, hb2⟩)))
      rename_i hk
      have hF := Lib.hid hk.2.2.2.2.2.2.2.2.2.2
      clear hk
      go_wp2_with fail
      go_ret
      exact ⟨ri (by rw [hR.out]; rfl), hF.out.below⟩
end Bk
end
section
open Go.RowKit Go.Lib
namespace Bk
open Un (ba bt ri rb aX bP)
def bI (W : World) (v : Value) (l : List Int) : Prop := ∃ g cap, v = .slice (some ⟨g, 0, none⟩) l.length cap /\ g < W.heap.size /\ ∀ i (h : i < l.length), W.cell? ⟨g, i, none⟩ = some (.int .i64 (l[i]'h))
theorem bI.later {W W2 : World} {v : Value} {l : List Int} (h : bI W v l) (hb : Below W.heap.size W W2) : bI W2 v l := by
 obtain ⟨g, cap, rfl, hg, hc⟩ := h
 exact ⟨g, cap, rfl, by have := hb.size; omega, fun i hi => (hb.cell (p := ⟨g, i, none⟩) hg).trans (hc i hi)⟩
theorem bI.own {W : World} {base e : Nat} {v : Value} {l : List Int} (h : W.ownsRow base e 1 v l.length (l.map (.int .i64))) (hne : l ≠ []) : bI W v l := by
 obtain ⟨h1, ⟨rfl, h2⟩ | ⟨g, cap, cur, rfl, hg, hh, hn, hc, hs, ht⟩⟩ := h
 . exact absurd (List.length_eq_zero_iff.1 h2) hne
 . refine ⟨g, cap, rfl, ?_, fun i hi => ?_⟩
   . by_cases c : g < W.heap.size
     . exact c
     . rw [Array.getElem?_eq_none (by omega)] at hh; cases hh
   . have hown : W.ownsRow base e 1 (.slice (some ⟨g, 0, none⟩) l.length cap) l.length (l.map (.int .i64)) := ⟨h1, .inr ⟨g, cap, cur, rfl, hg, hh, hn, hc, hs, ht⟩⟩
     rw [hown.cellAt i (by omega), List.getElem?_map, List.getElem?_eq_getElem hi]; rfl
theorem bI.one {W : World} {g cap : Nat} {n : Int} (hg : g < W.heap.size) (hc : W.cell? ⟨g, 0, none⟩ = some (.int .i64 n)) : bI W (.slice (some ⟨g, 0, none⟩) 1 cap) [n] :=
 ⟨g, cap, rfl, hg, fun i hi => by
  have : i = 0 := by simp at hi; omega
  subst this; exact hc⟩
def aKX (l : List Int) (w : World) (e : Ending) (w' : World) : Prop := ∃ v, e = .returned v /\ bI w' v l /\ Below w.heap.size w w'
theorem XG : (Tryz.prog.info? 3).map (fun i => (i.zero, i.size, i.bytes)) = some (some (.int .i64 0), 1, 8) := by kernel_rfl
theorem XQ (s : ByteArray) (n : Int) (w : World) (h2 : s.size = 2) (hx : ∀ i, i < 2 -> aZ s i = 88 \/ (48 <= aZ s i /\ aZ s i <= 57)) (n0 : 1 <= n) (n1 : n <= 99) :
 Calls Tryz.prog 136 #[.string s, .int .i64 n] w fun r w' => r = .returned (.bool (jJ s n)) /\ w = w' := by
 have l0 : 0 < s.size := by omega
 have l1 : 1 < s.size := by omega
 have hA := aCs h2 n
 have x0 := hx 0 (by omega); have x1 := hx 1 (by omega)
 rw [bY s 0 l0] at x0; rw [bY s 1 l1] at x1
 have y0 : 48 <= ((s[0]'l0).toNat : Int) := by omega
 have y1 : 48 <= ((s[1]'l1).toNat : Int) := by omega
 have z0 : ((s[0]'l0).toNat : Int) <= 88 := by omega
 have z1 : ((s[1]'l1).toNat : Int) <= 88 := by omega
 have q0 : 0 <= n / 10 := by omega
 have r0 : 0 <= n % 10 := by omega
 obtain ⟨a0, g0⟩ : ∃ b, (((s[0]'l0).toNat : Int) == 88) = b := ⟨_, rfl⟩
 obtain ⟨a1, g1⟩ : ∃ b, (((s[0]'l0).toNat : Int) - 48 == n / 10) = b := ⟨_, rfl⟩
 obtain ⟨b0, g2⟩ : ∃ b, (((s[1]'l1).toNat : Int) == 88) = b := ⟨_, rfl⟩
 obtain ⟨b1, g3⟩ : ∃ b, (((s[1]'l1).toNat : Int) - 48 == n % 10) = b := ⟨_, rfl⟩
 have g1' : (((s[0]'l0).toNat : Int) == 48 + n / 10) = a1 := by rw [<- g1, Bool.eq_iff_iff]; simp only [beq_iff_eq]; omega
 have g3' : (((s[1]'l1).toNat : Int) == 48 + n % 10) = b1 := by rw [<- g3, Bool.eq_iff_iff]; simp only [beq_iff_eq]; omega
 rw [O6 g0 g1' g2 g3'] at hA
 have HA := Lib.hid hA
 clear hA x0 x1 hx g1' g3' h2
 cases a0 <;> cases a1 <;> cases b0 <;> cases b1
 all_goals
  as_aux_lemma =>
   go_enter Tryz.func136, Tryz.ntmps136
   go_wp2
   go_ret
   exact ⟨rb HA.out.symm, rfl⟩
theorem aB5 (s : ByteArray) (g : Nat) : (dV s g).length <= g := nZ s g
theorem fits_any (s : ByteArray) (g : Nat) (w : World) (h2 : s.size = 2) (hx : ∀ i, i < 2 -> aZ s i = 88 \/ (48 <= aZ s i /\ aZ s i <= 57)) (hg : g <= 99) (hne : dV s g ≠ []) :
 Calls Tryz.prog 110 #[.string s, .int .i64 g] w (aKX (dV s g) w) := by
 obtain ⟨i0, hi, hz0, hz1, hz2⟩ := info_parts XG
 have HF := Lib.hid (fun (k : Nat) (hk : k < g) (w : World) => XQ s ((k : Int) + 1) w h2 hx (by omega) (by omega))
 have HNE := Lib.hid hne
 clear hx hne h2
 go_enter Tryz.func110, Tryz.ntmps110
 go_wp2
 go_loopw [5, 8] (fun v i wr => ∃ k : Nat, k <= g /\ i = .int .i64 k /\ wr.ownsRow w.heap.size 3 1 v (dV s k).length ((dV s k).map (Value.int .i64)) /\ Below w.heap.size w wr) (fun _ i _ => g - (intOf i).toNat)
 case atStart => exact ⟨0, Nat.zero_le _, rfl, World.ownsRow_nil _ _ _ _, Below.refl _ _⟩
 case round =>
  obtain ⟨k, hk, rfl, hown, hb⟩ := hrel
  by_cases hlt : k < g
  . have hf := HF.out k hlt
    have hle := aB5 s k
    cases ha : jJ s ((k : Int) + 1)
    . as_aux_lemma =>
       rw [ha] at hf
       have HA := Lib.hid hf
       have HE := Lib.hid (J9 ha)
       have HO := Lib.hid hown
       have HB := Lib.hid hb
       clear hf ha hown hb
       go_wp2_with (go_at_call 136; with_reducible refine (HA.out _).mono ?_; rintro _ w' ⟨rfl, rfl⟩)
       go_roundw
       case rel => exact ⟨k + 1, by omega, by go_num, by rw [HE.out]; exact HO.out, HB.out⟩
       case measure => simp [intOf]; omega
    . as_aux_lemma =>
       rw [ha] at hf
       have HA := Lib.hid hf
       have HE := Lib.hid (CW ha)
       have HB := Lib.hid hb
       clear hf ha hb
       go_wp2_with (first
        | (go_at_call 136; with_reducible refine (HA.out _).mono ?_; rintro _ w' ⟨rfl, rfl⟩)
        | (at_builtin; refine wpList_append_own _ rfl _ _ 114 rfl w.heap.size 3 i0 (.int .i64 0) 1 8 Tryz.underlying114 hi hz0 hz1 hz2 rfl (by decide) _ _ _ rfl (hown.alloc _) ⟨wr.heap.size, 0, none⟩ 1 1 [.int .i64 ((k : Int) + 1)] rfl rfl ?c1 ?c2 ?c3 ?c4 ?c5 ?_))
       case c1 =>
        intro j u hj
        match j, hj with
        | 0, hj => simp at hj; subst hj; simp [Addr.add]
       case c2 => intro u hu; simp at hu; subst hu; rfl
       case c3 => unfold maxLen; omega
       case c4 => omega
       case c5 => have := HB.out.size; simp; omega
       intro v' w1 hown' hgrow _
       have hB2 := ((HB.out).alloc (HB.out.size) (.cells #[.int .i64 ((k : Int) + 1)] 3)).grown hgrow (by have := HB.out.size; simp; omega) (fun j hj => (hown.lt j hj).1)
       have hO2 : w1.ownsRow w.heap.size 3 1 v' (dV s (k + 1)).length ((dV s (k + 1)).map (Value.int .i64)) := by rw [HE.out]; simpa using hown'
       replace hB2 := Lib.hid hB2
       replace hO2 := Lib.hid hO2
       clear hown' hgrow hown HB
       go_wp2
       go_roundw
       case rel => exact ⟨k + 1, by omega, by go_num, hO2.out, hB2.out⟩
       case measure => simp [intOf]; omega
  . as_aux_lemma =>
     obtain rfl : k = g := by omega
     have hS := bI.own hown HNE.out
     have HB := Lib.hid hb
     replace hS := Lib.hid hS
     clear hown hb HF
     go_wp2
     go_ret
     exact ⟨_, rfl, hS.out, HB.out⟩
end Bk
end
section
open Go.RowKit Go.Lib
namespace Bk
open Un (ba bt ri rb aX bP)
theorem kJ {s : ByteArray} {g : Nat} (hg : g <= 99) (h : eG s g = true) : s.size = 2 /\ (∀ i, i < 2 -> aZ s i = 88 \/ (48 <= aZ s i /\ aZ s i <= 57)) /\ dV s g ≠ [] := by
 refine ⟨?_, ?_, (aAS s g).1 h⟩
 . by_cases c : s.size = 2
   . exact c
   . rw [GY c] at h; cases h
 . obtain ⟨n, h1, h2, h3⟩ := (BL s g).1 h
   unfold jJ at h3
   simp only [Bool.and_eq_true, Bool.or_eq_true, decide_eq_true_eq] at h3
   intro i hi
   obtain rfl | rfl : i = 0 \/ i = 1 := by omega
   all_goals omega
def bW (d : Dt) : List Value := [.bool d.neg, .bool d.long, .string d.dg, .int .i64 d.ex, .int .i64 d.sig, .string d.mo, .string d.da, .int .u8 d.m0, .int .u8 d.m1, .int .u8 d.m2]
def gU (d : Dt) (mv dv : Value) : List Value := [.bool d.neg, .bool d.long, .string d.dg, .int .i64 d.ex, .int .i64 d.sig, .string d.mo, .string d.da, .int .u8 d.m0, .int .u8 d.m1, .int .u8 d.m2, mv, dv]
def QX : List Value := [.bool false, .bool false, .string ⟨#[]⟩, .int .i64 0, .int .i64 0, .string ⟨#[]⟩, .string ⟨#[]⟩, .int .u8 0, .int .u8 0, .int .u8 0, .slice none 0 0, .slice none 0 0]
theorem sO (d : Dt) : bZ d = .agg (bW d).toArray := rfl
theorem dA : (Tryz.prog.info? 37).map (·.size) = some 10 := by kernel_rfl
theorem iV : (Tryz.prog.info? 116).map (·.size) = some 12 := by kernel_rfl
def aKp (d : Dt) (w : World) (e : Ending) (w' : World) : Prop := ∃ mv dv, e = .returned (.agg (gU d mv dv).toArray) /\ bI w' mv d.ms /\ bI w' dv d.ds /\ Below w.heap.size w w'
theorem kF {d : Dt} (h : d.form = 0) : (d.aH ≠ 0 /\ d.mo.size ≠ 0 /\ d.da.size = 0) \/ (d.aH = 0 /\ d.mo.size ≠ 0 /\ eG d.mo 12 = true /\ (d.da.size = 0 \/ eG d.da 31 = true)) \/ (d.aH = 0 /\ d.mo.size = 0 /\ d.da.size = 0) := by
 obtain ⟨_, h1, h2, _⟩ := Dt.jO h
 by_cases c : d.aH = 0
 . by_cases e : d.mo.size = 0
   . refine .inr (.inr ⟨c, e, ?_⟩)
     rcases h2 with h2 | h2
     . exact h2
     . exact absurd e h2.1
   . refine .inr (.inl ⟨c, e, ?_, ?_⟩)
     . rcases h1 with h1 | h1 | h1
       . exact absurd h1 e
       . exact absurd c h1
       . exact h1
     . rcases h2 with h2 | h2
       . exact .inl h2
       . exact .inr h2.2.2
 . refine .inl ⟨c, ?_, ?_⟩
   . intro e; exact c (uF (by omega))
   . rcases h2 with h2 | h2
     . exact h2
     . exact absurd h2.2.1 c
theorem dM (w : World) (o : Obj) : (w.alloc o).heap.size = w.heap.size + 1 := by show (w.heap.push o).size = _; simp
theorem aKC (d : Dt) {mv dv : Value} (hm : mv.oneCell' = true) (hd : dv.oneCell' = true) : (gU d mv dv).toArray.all (·.oneCell') = true :=
 all_oneCell_toArray (fun v hv => by
  unfold gU at hv
  simp only [List.mem_cons, List.not_mem_nil, or_false] at hv
  rcases hv with rfl | rfl | rfl | rfl | rfl | rfl | rfl | rfl | rfl | rfl | rfl | rfl <;> first | rfl | assumption)
theorem bI.one' {W : World} {v : Value} {l : List Int} (h : bI W v l) : v.oneCell' = true := by obtain ⟨g, cap, rfl, _⟩ := h; rfl
theorem bI.lit {w W : World} (n : Int) : bI (W.alloc (.cells #[.int .i64 n] 3)) (.slice (some ⟨W.heap.size, 0, none⟩) 1 1) [n] :=
 bI.one (by rw [dM]; omega) (by simp [go_sem])
theorem Rw.gJ {p : Nat} {d : Dt} {w W : World} (h : Rw p (bW d) w W) : W.cell? ⟨p, 0, none⟩ = some (.bool d.neg) /\ W.cell? ⟨p, 1, none⟩ = some (.bool d.long) /\ W.cell? ⟨p, 2, none⟩ = some (.string d.dg) /\ W.cell? ⟨p, 3, none⟩ = some (.int .i64 d.ex) /\ W.cell? ⟨p, 4, none⟩ = some (.int .i64 d.sig) /\ W.cell? ⟨p, 5, none⟩ = some (.string d.mo) /\ W.cell? ⟨p, 6, none⟩ = some (.string d.da) /\ W.cell? ⟨p, 7, none⟩ = some (.int .u8 d.m0) /\ W.cell? ⟨p, 8, none⟩ = some (.int .u8 d.m1) /\ W.cell? ⟨p, 9, none⟩ = some (.int .u8 d.m2) :=
 ⟨h.cell _ _ rfl, h.cell _ _ rfl, h.cell _ _ rfl, h.cell _ _ rfl, h.cell _ _ rfl, h.cell _ _ rfl, h.cell _ _ rfl, h.cell _ _ rfl, h.cell _ _ rfl, h.cell _ _ rfl⟩
theorem aG3 {w W0 : World} {p1 p2 : Nat} (d : Dt) (h1 : Rw p1 (bW d) w W0) (h2 : Rw p2 QX w W0) :
 (((W0.alloc (.cells #[.int .i64 0] 3)).alloc (.cells #[.int .i64 0] 3)).alloc (.cells #[.bool false, .bool false, .string ⟨#[]⟩, .int .i64 0, .int .i64 0, .string ⟨#[]⟩, .string ⟨#[]⟩, .int .u8 0, .int .u8 0, .int .u8 0, .slice none 0 0, .slice none 0 0] 116)).there (W0.heap.size + 1 + 1) 0 12 /\
 ∀ mv dv : Value, mv = .slice (some ⟨W0.heap.size, 0, none⟩) 1 1 -> dv = .slice (some ⟨W0.heap.size + 1, 0, none⟩) 1 1 -> ∀ W3, W3 = (((W0.alloc (.cells #[.int .i64 0] 3)).alloc (.cells #[.int .i64 0] 3)).alloc (.cells #[.bool false, .bool false, .string ⟨#[]⟩, .int .i64 0, .int .i64 0, .string ⟨#[]⟩, .string ⟨#[]⟩, .int .u8 0, .int .u8 0, .int .u8 0, .slice none 0 0, .slice none 0 0] 116)).setCells (W0.heap.size + 1 + 1) 0 (gU d mv dv) ->
  W0.heap.size + 1 + 1 ≠ p2 /\ W0.heap.size + 1 + 1 ≠ p1 /\ Rw (W0.heap.size + 1 + 1) (gU d mv dv) w W3 /\ Rw p2 QX w W3 /\ Rw p1 (bW d) w W3 /\ bI W3 mv [0] /\ bI W3 dv [0] := by
 have b0 := h1.below
 have e1 : (W0.alloc (.cells #[.int .i64 0] 3)).heap.size = W0.heap.size + 1 := dM _ _
 have e2 : ((W0.alloc (.cells #[.int .i64 0] 3)).alloc (.cells #[.int .i64 0] 3)).heap.size = W0.heap.size + 1 + 1 := by rw [dM, e1]
 have h3 : Rw (W0.heap.size + 1 + 1) QX w (((W0.alloc (.cells #[.int .i64 0] 3)).alloc (.cells #[.int .i64 0] 3)).alloc (.cells #[.bool false, .bool false, .string ⟨#[]⟩, .int .i64 0, .int .i64 0, .string ⟨#[]⟩, .string ⟨#[]⟩, .int .u8 0, .int .u8 0, .int .u8 0, .slice none 0 0, .slice none 0 0] 116)) := by
  have := Rw.fresh (ba (ba b0 (.cells #[.int .i64 0] 3)) (.cells #[.int .i64 0] 3)) QX 116
  rw [e2] at this
  exact this
 refine ⟨h3.there, ?_⟩
 rintro mv dv rfl rfl W3 rfl
 have l1 := h1.lt
 have l2 := h2.lt
 have n1 := h1.new
 have bA : Below W0.heap.size W0 (((W0.alloc (.cells #[.int .i64 0] 3)).alloc (.cells #[.int .i64 0] 3)).alloc (.cells #[.bool false, .bool false, .string ⟨#[]⟩, .int .i64 0, .int .i64 0, .string ⟨#[]⟩, .string ⟨#[]⟩, .int .u8 0, .int .u8 0, .int .u8 0, .slice none 0 0, .slice none 0 0] 116)) := ba (ba (ba (Below.refl _ _) _) _) _
 have i1 : bI (((W0.alloc (.cells #[.int .i64 0] 3)).alloc (.cells #[.int .i64 0] 3)).alloc (.cells #[.bool false, .bool false, .string ⟨#[]⟩, .int .i64 0, .int .i64 0, .string ⟨#[]⟩, .string ⟨#[]⟩, .int .u8 0, .int .u8 0, .int .u8 0, .slice none 0 0, .slice none 0 0] 116)) (.slice (some ⟨W0.heap.size, 0, none⟩) 1 1) [0] :=
  ((bI.lit (w := w) (W := W0) 0).later (ba (Below.refl _ _) _)).later (ba (Below.refl _ _) _)
 have i2 : bI (((W0.alloc (.cells #[.int .i64 0] 3)).alloc (.cells #[.int .i64 0] 3)).alloc (.cells #[.bool false, .bool false, .string ⟨#[]⟩, .int .i64 0, .int .i64 0, .string ⟨#[]⟩, .string ⟨#[]⟩, .int .u8 0, .int .u8 0, .int .u8 0, .slice none 0 0, .slice none 0 0] 116)) (.slice (some ⟨W0.heap.size + 1, 0, none⟩) 1 1) [0] := by
  have := (bI.lit (w := w) (W := W0.alloc (.cells #[.int .i64 0] 3)) 0).later (ba (Below.refl _ _) (.cells #[.bool false, .bool false, .string ⟨#[]⟩, .int .i64 0, .int .i64 0, .string ⟨#[]⟩, .string ⟨#[]⟩, .int .u8 0, .int .u8 0, .int .u8 0, .slice none 0 0, .slice none 0 0] 116))
  rw [e1] at this
  exact this
 have keep : ∀ {g : Nat} {l : List Int} {v : Value}, bI (((W0.alloc (.cells #[.int .i64 0] 3)).alloc (.cells #[.int .i64 0] 3)).alloc (.cells #[.bool false, .bool false, .string ⟨#[]⟩, .int .i64 0, .int .i64 0, .string ⟨#[]⟩, .string ⟨#[]⟩, .int .u8 0, .int .u8 0, .int .u8 0, .slice none 0 0, .slice none 0 0] 116)) v l -> v.ownBlock ≠ some (W0.heap.size + 1 + 1) -> bI ((((W0.alloc (.cells #[.int .i64 0] 3)).alloc (.cells #[.int .i64 0] 3)).alloc (.cells #[.bool false, .bool false, .string ⟨#[]⟩, .int .i64 0, .int .i64 0, .string ⟨#[]⟩, .string ⟨#[]⟩, .int .u8 0, .int .u8 0, .int .u8 0, .slice none 0 0, .slice none 0 0] 116)).setCells (W0.heap.size + 1 + 1) 0 (gU d (.slice (some ⟨W0.heap.size, 0, none⟩) 1 1) (.slice (some ⟨W0.heap.size + 1, 0, none⟩) 1 1))) v l := by
  rintro _ l v ⟨g, cap, rfl, hg, hc⟩ hne
  refine ⟨g, cap, rfl, by rw [setCells_size]; exact hg, fun i hi => ?_⟩
  rw [World.cell?_setCells_out _ _ _ _ _ (fun e _ => absurd (by rw [<- e]; rfl) hne)]
  exact hc i hi
 refine ⟨by omega, by omega, h3.cO _ rfl, (h2.later bA).others (by omega) (by omega) _ _, (h1.later bA).others (by omega) (by omega) _ _, keep (g := 0) i1 ?_, keep (g := 0) i2 ?_⟩
 . intro e; have e : W0.heap.size = W0.heap.size + 1 + 1 := Option.some.inj e; omega
 . intro e; have e : W0.heap.size + 1 = W0.heap.size + 1 + 1 := Option.some.inj e; omega
theorem bI.set {W : World} {v u : Value} {l : List Int} {p k : Nat} (h : bI W v l) (hne : v.ownBlock ≠ some p) : bI (W.setCell ⟨p, k, none⟩ u) v l := by
 obtain ⟨g, cap, rfl, hg, hc⟩ := h
 refine ⟨g, cap, rfl, by show g < (W.heap.modify _ _).size; rw [Array.size_modify]; exact hg, fun i hi => ?_⟩
 rw [World.cell?_setCell_other _ _ _ _ (fun e => by injection e with e1 e2; exact hne (by rw [e1]; rfl))]
 exact hc i hi
theorem bI.sets {W : World} {v : Value} {l : List Int} {p k : Nat} {us : List Value} (h : bI W v l) (hne : v.ownBlock ≠ some p) : bI (W.setCells p k us) v l := by
 obtain ⟨g, cap, rfl, hg, hc⟩ := h
 refine ⟨g, cap, rfl, by rw [setCells_size]; exact hg, fun i hi => ?_⟩
 rw [World.cell?_setCells_out _ _ _ _ _ (fun e _ => absurd (by rw [<- e]; rfl) hne)]
 exact hc i hi
theorem Rw.apart {p : Nat} {vs : List Value} {w W : World} (h : Rw p vs w W) {v : Value} {l : List Int} (hv : bI W v l) {x : Value} (hx : vs[0]? = some x) (hne : ∀ n, x ≠ .int .i64 n) (hl : l ≠ []) : v.ownBlock ≠ some p := by
 obtain ⟨g, cap, rfl, hg, hc⟩ := hv
 intro e
 have e : g = p := Option.some.inj e
 subst e
 have h1 := h.cell 0 x hx
 have h2 := hc 0 (by cases l with | nil => exact absurd rfl hl | cons a b => simp)
 rw [h1] at h2
 exact hne _ (Option.some.inj h2)
theorem Dt.nU {d : Dt} (h : d.aH ≠ 0) : d.ms = [d.aH] := by unfold Dt.ms; rw [if_pos h]
theorem Dt.rQ {d : Dt} (h : d.aH = 0) (h2 : d.mo.size ≠ 0) : d.ms = dV d.mo 12 := by unfold Dt.ms; rw [if_neg (by omega), if_neg h2]
theorem Dt.zI {d : Dt} (h : d.aH = 0) (h2 : d.mo.size = 0) : d.ms = [0] := by unfold Dt.ms; rw [if_neg (by omega), if_pos h2]
theorem Dt.SV {d : Dt} (h : d.da.size ≠ 0) : d.ds = dV d.da 31 := by unfold Dt.ds; rw [if_neg h]
theorem Dt.ds_none {d : Dt} (h : d.da.size = 0) : d.ds = [0] := by unfold Dt.ds; rw [if_pos h]
theorem Dt.aKK {d : Dt} (h : d.form = 0) : d.ms ≠ [] := by
 rcases kF h with ⟨h1, _⟩ | ⟨h1, h2, h3, _⟩ | ⟨h1, h2, _⟩
 . rw [Dt.nU h1]; simp
 . rw [Dt.rQ h1 h2]; exact (kJ (by omega) h3).2.2
 . rw [Dt.zI h1 h2]; simp
theorem Dt.aKS {d : Dt} (h : d.form = 0) : d.ds ≠ [] := by
 by_cases c : d.da.size = 0
 . rw [Dt.ds_none c]; simp
 . rw [Dt.SV c]
   rcases kF h with ⟨_, _, h3⟩ | ⟨_, _, _, h3⟩ | ⟨_, _, h3⟩
   . exact absurd h3 c
   . rcases h3 with h3 | h3
     . exact absurd h3 c
     . exact (kJ (by omega) h3).2.2
   . exact absurd h3 c
theorem IZ (d : Dt) (w : World) (hk : qI w) (hs : d.mo.size <= 1000) (hf : d.form = 0) :
 Calls Tryz.prog 82 #[bZ d] w (aKp d w) := by
 have hS := fun W hb => xR d W (hk.below (w' := W) hb) hs
 have hD : Rw w.heap.size (bW d) w ((w.alloc (.cells #[.bool d.neg, .bool d.long, .string d.dg, .int .i64 d.ex, .int .i64 d.sig, .string d.mo, .string d.da, .int .u8 d.m0, .int .u8 d.m1, .int .u8 d.m2] 37)).alloc (.cells #[.bool false, .bool false, .string ⟨#[]⟩, .int .i64 0, .int .i64 0, .string ⟨#[]⟩, .string ⟨#[]⟩, .int .u8 0, .int .u8 0, .int .u8 0, .slice none 0 0, .slice none 0 0] 116)) := (Rw.fresh (Below.refl _ _) (bW d) _).later (ba (Below.refl _ _) _)
 have hZ : Rw (w.heap.size + 1) QX w ((w.alloc (.cells #[.bool d.neg, .bool d.long, .string d.dg, .int .i64 d.ex, .int .i64 d.sig, .string d.mo, .string d.da, .int .u8 d.m0, .int .u8 d.m1, .int .u8 d.m2] 37)).alloc (.cells #[.bool false, .bool false, .string ⟨#[]⟩, .int .i64 0, .int .i64 0, .string ⟨#[]⟩, .string ⟨#[]⟩, .int .u8 0, .int .u8 0, .int .u8 0, .slice none 0 0, .slice none 0 0] 116)) := by
  have := Rw.fresh (ba (Below.refl w.heap.size w) (.cells #[.bool d.neg, .bool d.long, .string d.dg, .int .i64 d.ex, .int .i64 d.sig, .string d.mo, .string d.da, .int .u8 d.m0, .int .u8 d.m1, .int .u8 d.m2] 37)) QX 116
  rw [dM] at this
  exact this
 unfold bZ at hS
 obtain ⟨z, hz⟩ : ∃ z, z = decide (d.aH = 0) := ⟨_, rfl⟩
 rw [<- hz] at hS
 have HZ0 := Lib.hid hz
 clear hz
 have HS0 := Lib.hid hS
 have HNE := Lib.hid (⟨Dt.aKK hf, Dt.aKS hf⟩ : d.ms ≠ [] /\ d.ds ≠ [])
 have HF := Lib.hid (kF hf)
 clear hS hf
 unfold bZ
 go_enter Tryz.func82, Tryz.ntmps82
 go_upto_region 1 with (fail)
 generalize (w.alloc (.cells #[.bool d.neg, .bool d.long, .string d.dg, .int .i64 d.ex, .int .i64 d.sig, .string d.mo, .string d.da, .int .u8 d.m0, .int .u8 d.m1, .int .u8 d.m2] 37)).alloc (.cells #[.bool false, .bool false, .string ⟨#[]⟩, .int .i64 0, .int .i64 0, .string ⟨#[]⟩, .string ⟨#[]⟩, .int .u8 0, .int .u8 0, .int .u8 0, .slice none 0 0, .slice none 0 0] 116) = W0 at hD hZ ⊢
 go_cut [3] (fun s3 wx => ∃ p3 mv dv, s3 = .pointer (some ⟨p3, 0, none⟩) /\ p3 ≠ w.heap.size + 1 /\ p3 ≠ w.heap.size /\ Rw p3 (gU d mv dv) w wx /\ Rw (w.heap.size + 1) QX w wx /\ Rw w.heap.size (bW d) w wx /\ bI wx mv [0] /\ bI wx dv [0])
 case first =>
  obtain ⟨hT, hN⟩ := aG3 d hD hZ
  have HN := Lib.hid (hN _ _ rfl rfl _ rfl)
  obtain ⟨q0, q1, q2, q3, q4, q5, q6, q7, q8, q9⟩ := hD.gJ
  clear hN hZ hD HF HS0
  go_wp2_with (first
   | (refine wpList_store_mid rfl 116 (.tmp 3) (.tmp 9) rfl (W0.heap.size + 1 + 1) 0 (gU d (.slice (some ⟨W0.heap.size, 0, none⟩) 1 1) (.slice (some ⟨W0.heap.size + 1, 0, none⟩) 1 1)).toArray rfl rfl hT iV (aKC d rfl rfl) ?_))
  go_meet
  obtain ⟨g1, g2, g3, g4, g5, g6, g7⟩ := HN.out
  exact ⟨_, _, _, rfl, g1, g2, g3, g4, g5, g6, g7⟩
 case rest =>
  obtain ⟨p3, mv, dv, rfl, n1, n2, hP, hZ, hD, hm, hv⟩ := hcut
  obtain ⟨q0, q1, q2, q3, q4, q5, q6, q7, q8, q9⟩ := hD.gJ
  have N1 := Lib.hid n1; have N2 := Lib.hid n2
  clear n1 n2
  go_upto_if 15 with (go_at_call 105; with_reducible refine (HS0.out _ hD.below).mono ?_; rintro _ w2 ⟨rfl, hb⟩; replace hP := hP.later hb; replace hZ := hZ.later hb; replace hD := hD.later hb; replace hm := hm.later hb; replace hv := hv.later hb; clear hb)
  clear q0 q1 q2 q3 q4 q5 q6 q7 q8 q9 HS0
  obtain ⟨q0, q1, q2, q3, q4, q5, q6, q7, q8, q9⟩ := hD.gJ
  go_cut [] (fun wx => ∃ mv2, Rw p3 (gU d mv2 dv) w wx /\ Rw (w.heap.size + 1) QX w wx /\ Rw w.heap.size (bW d) w wx /\ bI wx mv2 d.ms /\ bI wx dv [0])
  case first =>
   have aPg : w2.cell? ⟨p3, 10, none⟩ = some mv := hP.cell 10 _ rfl
   have aPd := hP.free 10 (by show 10 < 12; omega)
   rcases HF.out with ⟨h1, h2, h3⟩ | ⟨h1, h2, h3, h4⟩ | ⟨h1, h2, h3⟩
   . obtain rfl : z = false := HZ0.out.trans (decide_eq_false h1)
     have hms := Dt.nU h1
     have es : (w2.setCell ⟨p3, 10, none⟩ (.slice (some ⟨w2.heap.size, 0, none⟩) 1 1)).heap.size = w2.heap.size := by simp [World.setCell]
     have av := hP.apart hv rfl (fun n e => by cases e) (by simp)
     have bl := ba (Below.refl (w2.setCell ⟨p3, 10, none⟩ (.slice (some ⟨w2.heap.size, 0, none⟩) 1 1)).heap.size (w2.setCell ⟨p3, 10, none⟩ (.slice (some ⟨w2.heap.size, 0, none⟩) 1 1))) (.cells #[.int .i64 d.aH] 3)
     have hX : Rw p3 (gU d (.slice (some ⟨w2.heap.size, 0, none⟩) 1 1) dv) w _ := (hP.set 10 (by show 10 < 12; omega) (.slice (some ⟨w2.heap.size, 0, none⟩) 1 1)).later bl
     have hX2 : bI ((w2.setCell ⟨p3, 10, none⟩ (.slice (some ⟨w2.heap.size, 0, none⟩) 1 1)).alloc (.cells #[.int .i64 d.aH] 3)) (.slice (some ⟨(w2.setCell ⟨p3, 10, none⟩ (.slice (some ⟨w2.heap.size, 0, none⟩) 1 1)).heap.size, 0, none⟩) 1 1) [d.aH] := bI.lit (w := w) d.aH
     rw [es] at hX2
     have hX3 := (hv.set (k := 10) (u := .slice (some ⟨w2.heap.size, 0, none⟩) 1 1) av).later bl
     have hX4 := (hZ.other N1.out hP.new 10 (.slice (some ⟨w2.heap.size, 0, none⟩) 1 1)).later bl
     have hX5 := (hD.other N2.out hP.new 10 (.slice (some ⟨w2.heap.size, 0, none⟩) 1 1)).later bl
     rw [<- hms] at hX2
     have HX := Lib.hid (⟨hX, hX4, hX5, hX2, hX3⟩ : _ /\ _ /\ _ /\ _ /\ _)
     have hlt := hP.lt
     clear hms hX hX2 hX3 hX4 hX5 av bl es h1 h2 h3 HF hP hZ hD hm hv
     go_wp2
     go_meet
     exact ⟨_, HX.out⟩
   . obtain rfl : z = true := HZ0.out.trans (decide_eq_true h1)
     have hms := Dt.rQ h1 h2
     obtain ⟨s2, sx, sn⟩ := kJ (by omega) h3
     have HFi := Lib.hid (fun w => fits_any d.mo 12 w s2 sx (by omega) sn)
     have m0 := yK h2
     have HMS := Lib.hid hms
     have SN := Lib.hid sn
     clear hms h1 h2 h3 h4 s2 sx sn HF
     generalize dV d.mo 12 = L at *
     go_wp2_with fail
     refine (HFi.out _).mono ?_; rintro _ w4 ⟨v, rfl, hi, hb⟩
     clear aPg aPd
     replace hP := hP.later hb; replace hZ := hZ.later hb; replace hD := hD.later hb; replace hm := hm.later hb; replace hv := hv.later hb; clear hb
     have aPg : w4.cell? ⟨p3, 10, none⟩ = some mv := hP.cell 10 _ rfl
     have aPd := hP.free 10 (by show 10 < 12; omega)
     have hl : L ≠ [] := SN.out
     have ap := hP.apart hi rfl (fun n e => by cases e) hl
     have hX : Rw p3 (gU d v dv) w _ := hP.set 10 (by show 10 < 12; omega) v
     have hX2 := hi.set (k := 10) (u := v) ap
     rw [<- HMS.out] at hX2
     have av := hP.apart hv rfl (fun n e => by cases e) (by simp)
     have hX3 := hv.set (k := 10) (u := v) av
     have HX := Lib.hid (⟨hX, hZ.other N1.out hP.new 10 v, hD.other N2.out hP.new 10 v, hX2, hX3⟩ : _ /\ _ /\ _ /\ _ /\ _)
     obtain ⟨g, cap, rfl, _⟩ := hi
     clear hX hX2 hX3 ap av hP hZ hD hm hv
     go_wp2
     go_meet
     exact ⟨_, HX.out⟩
   . obtain rfl : z = true := HZ0.out.trans (decide_eq_true h1)
     have hms := Dt.zI h1 h2
     rw [<- hms] at hm
     have m0 := zW h2
     have HX := Lib.hid (⟨hP, hZ, hD, hm, hv⟩ : _ /\ _ /\ _ /\ _ /\ _)
     clear hms h1 h2 h3 HF hP hZ hD hm hv
     go_wp2
     go_meet
     exact ⟨_, HX.out⟩
  case rest =>
   obtain ⟨mv2, hP, hZ, hD, hm, hv⟩ := hcut
   clear q0 q1 q2 q3 q4 q5 q6 q7 q8 q9
   obtain ⟨q0, q1, q2, q3, q4, q5, q6, q7, q8, q9⟩ := hD.gJ
   obtain ⟨de, hde⟩ : ∃ z, d.da.toList.isEmpty = z := ⟨_, rfl⟩
   have HDE : Hid ((de = true /\ d.da.size = 0) \/ (de = false /\ ¬ d.da.size = 0)) := Lib.hid (by
    rcases bQ d.da with ⟨c, e1⟩ | ⟨c, e1⟩
    . exact .inl ⟨hde.symm.trans e1, c⟩
    . exact .inr ⟨hde.symm.trans e1, c⟩)
   go_upto_if 28 with (fail)
   clear hde
   go_cut [] (fun wx => ∃ dv2, Rw p3 (gU d mv2 dv2) w wx /\ Rw (w.heap.size + 1) QX w wx /\ bI wx mv2 d.ms /\ bI wx dv2 d.ds)
   case first =>
    have aPf : wc.cell? ⟨p3, 11, none⟩ = some dv := hP.cell 11 _ rfl
    have aPc := hP.free 11 (by show 11 < 12; omega)
    rcases HDE.out with ⟨rfl, c⟩ | ⟨rfl, c⟩
    . rw [<- Dt.ds_none c] at hv
      have HX := Lib.hid (⟨hP, hZ, hm, hv⟩ : _ /\ _ /\ _ /\ _)
      clear hP hZ hD hm hv c HF HZ0
      go_wp2
      go_meet
      exact ⟨_, HX.out⟩
    . have h4 : eG d.da 31 = true := by
       rcases HF.out with ⟨_, _, h⟩ | ⟨_, _, _, h⟩ | ⟨_, _, h⟩
       . exact absurd h c
       . rcases h with h | h
         . exact absurd h c
         . exact h
       . exact absurd h c
      obtain ⟨s2, sx, sn⟩ := kJ (by omega) h4
      have HFi := Lib.hid (fun w => fits_any d.da 31 w s2 sx (by omega) sn)
      have HDS := Lib.hid (Dt.SV c)
      have SN := Lib.hid sn
      have MN := Lib.hid (⟨hm, by
       rcases HF.out with ⟨h, _, _⟩ | ⟨h, h2, h3, _⟩ | ⟨h, h2, _⟩
       . rw [Dt.nU h]; simp
       . rw [Dt.rQ h h2]; exact (kJ (by omega) h3).2.2
       . rw [Dt.zI h h2]; simp⟩ : bI wc mv2 d.ms /\ d.ms ≠ [])
      clear h4 s2 sx sn c HF HZ0
      generalize dV d.da 31 = L at *
      go_wp2_with fail
      refine (HFi.out _).mono ?_; rintro _ w4 ⟨v, rfl, hi, hb⟩
      clear aPf aPc
      have hm2 := MN.out.1.later hb
      have mne := MN.out.2
      clear MN hm
      replace hP := hP.later hb; replace hZ := hZ.later hb; clear hb hD hv
      have aPf : w4.cell? ⟨p3, 11, none⟩ = some dv := hP.cell 11 _ rfl
      have aPc := hP.free 11 (by show 11 < 12; omega)
      have ap := hP.apart hi rfl (fun n e => by cases e) SN.out
      have am := hP.apart hm2 rfl (fun n e => by cases e) mne
      have hX : Rw p3 (gU d mv2 v) w _ := hP.set 11 (by show 11 < 12; omega) v
      have hX2 := hi.set (k := 11) (u := v) ap
      rw [<- HDS.out] at hX2
      have HX := Lib.hid (⟨hX, hZ.other N1.out hP.new 11 v, hm2.set (k := 11) (u := v) am, hX2⟩ : _ /\ _ /\ _ /\ _)
      obtain ⟨g, cap, rfl, _⟩ := hi
      clear hX hX2 ap am hP hZ hm2 mne
      go_wp2
      go_meet
      exact ⟨_, HX.out⟩
   case rest =>
    obtain ⟨dv2, hP, hZ, hm, hv⟩ := hcut
    clear q0 q1 q2 q3 q4 q5 q6 q7 q8 q9
    have hR := hP.range
    have hT := hZ.there
    have o1 := aKC d hm.one' hv.one'
    have hX := hZ.cO (gU d mv2 dv2) rfl
    have hr := run_loadVar_mid (P := Tryz.prog) _ _ 0 116 (gU d mv2 dv2) _ hX.range Tryz.underlying116 rfl iV
    have HX := Lib.hid (⟨hm.sets (k := 0) (us := gU d mv2 dv2) (hZ.apart hm rfl (fun n e => by cases e) HNE.out.1), hv.sets (k := 0) (us := gU d mv2 dv2) (hZ.apart hv rfl (fun n e => by cases e) HNE.out.2), hX.below⟩ : _ /\ _ /\ _)
    replace hr := Lib.hid hr
    clear hX hP hZ hm hv HF HZ0
    go_wp2_with (first
     | (refine wpList_load_mid rfl 116 (.tmp 3) rfl p3 0 rfl (gU d mv2 dv2) _ hR Tryz.underlying116 rfl iV ?_)
     | (refine wpList_store_mid rfl 116 (.tmp 2) (.tmp 33) rfl (w.heap.size + 1) 0 (gU d mv2 dv2).toArray rfl rfl hT iV o1 ?_))
    exact bodyPost_ret (v := .agg (gU d mv2 dv2).toArray) (yZ Tryz.results82 _ rfl hr.out) rfl ⟨mv2, dv2, rfl, HX.out⟩
end Bk
end
section
open Go.RowKit Go.Lib
namespace Bk
open Un (ba bt ri rb aX bP)
theorem LV (y m : Int) (w : World) (hk : qI w) (h0 : -10000000000000000 <= y) (h1 : y <= 10000000000000000) (m0 : 1 <= m) (m1 : m <= 12) :
 Calls Tryz.prog 138 #[.int .i64 y, .int .i64 m] w fun e w' => e = .returned (.tuple #[.int .i64 (Cal.len y m), .int .i64 0]) /\ Below w.heap.size w w' := by
 have HC : Hid (∀ w : World, Calls Tryz.prog 162 #[.int .i64 y, .int .i64 m] w fun e w' => e = .returned (.int .i64 0) /\ w = w') := Lib.hid (by
  intro w; have := Un.iP y m w
  unfold Un.rC at this; rw [if_pos ⟨h0, h1⟩, if_pos ⟨m0, m1⟩] at this; exact this)
 have HL := Lib.hid (Un.oQ y m w hk.cal h0 h1 m0 m1)
 generalize Cal.len y m = n at *
 clear hk
 go_enter Tryz.func138, Tryz.ntmps138
 go_wp2_with (first | (go_at_call 162; with_reducible refine (HC.out _).mono ?_; rintro _ w' ⟨rfl, rfl⟩) | (go_at_call 163; with_reducible refine HL.out.mono ?_; rintro _ w' ⟨rfl, hb⟩))
 go_ret2
 exact ⟨rfl, hb⟩
def fmv (d : Dt) (mv dv : Value) : Value := .agg #[.bool d.neg, .bool d.long, .string d.dg, .int .i64 d.ex, .int .i64 d.sig, .string d.mo, .string d.da, .int .u8 d.m0, .int .u8 d.m1, .int .u8 d.m2, mv, dv]
theorem D9 (d : Dt) (mv dv : Value) (y m : Int) (w : World) (hk : qI w) (h0 : -10000000000000000 <= y) (h1 : y <= 10000000000000000) (hm : d.da.size ≠ 0 -> 1 <= m /\ m <= 12) :
 Calls Tryz.prog 115 #[fmv d mv dv, .int .i64 y, .int .i64 m] w fun e w' => e = .returned (.int .i64 (d.len y m)) /\ Below w.heap.size w w' := by
 have hF : Rw w.heap.size (gU d mv dv) w _ := Rw.fresh (Below.refl _ _) (gU d mv dv) 116
 have q6 := hF.cell 6 _ rfl
 have HB := Lib.hid hF.below
 clear hF
 unfold fmv
 unfold gU at q6 HB
 unfold Dt.len
 rcases bQ d.da with ⟨c, e1⟩ | ⟨c, e1⟩
 . rw [if_pos c]
   clear c
   go_enter Tryz.func115, Tryz.ntmps115
   go_wp2
   go_ret
   exact ⟨rfl, HB.out⟩
 . rw [if_neg c]
   obtain ⟨m0, m1⟩ := hm c
   have HL := Lib.hid (fun W hb => LV y m W (hk.below (w' := W) hb) h0 h1 m0 m1)
   generalize Cal.len y m = n at *
   clear c
   go_enter Tryz.func115, Tryz.ntmps115
   go_wp2_with (go_at_call 138; with_reducible refine (HL.out _ HB.out).mono ?_; rintro _ w' ⟨rfl, hb⟩)
   go_ret
   exact ⟨rfl, bt HB.out hb⟩
theorem aCD {d : Dt} {n : Int} (hm : d.mask = false) : d.Year n (yVal d.neg d.dg d.ex) (decide (n <= yVal d.neg d.dg d.ex)) := by
 have hin : ∀ u, d.In u ↔ u = yVal d.neg d.dg d.ex := fun u => by
  unfold Dt.In yVal Dt.mag
  rw [if_neg (by rw [hm]; decide)]
 by_cases c : n <= yVal d.neg d.dg d.ex
 . exact .inl ⟨decide_eq_true c, (hin _).2 rfl, c, fun u hu _ => by rw [(hin u).1 hu]; exact Int.le_refl _⟩
 . exact .inr ⟨decide_eq_false c, fun u hu h => by rw [(hin u).1 hu] at h; exact c h⟩
theorem aK4 {d : Dt} {n v : Int} {ok : Bool} (hm : d.mask = true) (hn : d.neg = false) (h : UpR (aZ d.dg) n 0 v ok) : d.Year n v ok := by
 have hin : ∀ u, d.In u ↔ oC (aZ d.dg) u := fun u => by
  unfold Dt.In
  rw [if_pos hm, if_neg (by rw [hn]; decide)]
 rcases h.2.2 with ⟨h1, h2, h3, _, h4⟩ | ⟨h1, h2⟩
 . exact .inl ⟨h1, (hin _).2 h2, h3, fun u hu hl => h4 u ((hin u).1 hu) hl ((hin u).1 hu).1⟩
 . exact .inr ⟨h1, fun u hu hl => by have := h2 u ((hin u).1 hu) ((hin u).1 hu).1; omega⟩
theorem aK5 {d : Dt} {n v : Int} {ok : Bool} (hm : d.mask = true) (hn : d.neg = true) (h : DnR (aZ d.dg) (-(max n (-9223372036854775807))) 1 v ok) : d.Year n (-v) ok := by
 have hin : ∀ u, d.In u ↔ (oC (aZ d.dg) (-u) /\ u ≠ 0) := fun u => by
  unfold Dt.In
  rw [if_pos hm, if_pos hn]
 rcases h.2.2 with ⟨h1, h2, h3, h5, h4⟩ | ⟨h1, h2⟩
 . refine .inl ⟨h1, (hin _).2 ⟨by rw [Int.neg_neg]; exact h2, by omega⟩, by omega, fun u hu hl => ?_⟩
   obtain ⟨g1, g2⟩ := (hin u).1 hu
   have := h4 (-u) g1 (by have := g1.2.1; omega)
   omega
 . refine .inr ⟨h1, fun u hu hl => ?_⟩
   obtain ⟨g1, g2⟩ := (hin u).1 hu
   have := h2 (-u) g1 (by have := g1.2.1; omega)
   have := g1.1
   omega
theorem SI (d : Dt) (mv dv : Value) (n : Int) (w : World) (hy : d.dg.size <= 1000) (hok : d.PK = true) (n0 : -9223372036854775808 <= n) (n1 : n < 9223372036854775808) :
 Calls Tryz.prog 114 #[fmv d mv dv, .int .i64 n, .bool true] w (O9 (fun v ok => d.Year n v ok) w) := by
 have hF : Rw w.heap.size (gU d mv dv) w _ := Rw.fresh (Below.refl _ _) (gU d mv dv) 116
 unfold gU at hF
 have hM := fun W => lX d.neg d.long d.dg d.ex d.sig W
 unfold yv at hM
 unfold Dt.PK at hok
 unfold fmv
 go_enter Tryz.func114, Tryz.ntmps114
 go_upto_region 1 with (fail)
 generalize w.alloc _ = W0 at hF ⊢
 obtain ⟨r0, r1, r2, r3, r4⟩ := (⟨hF.cell 0 _ rfl, hF.cell 1 _ rfl, hF.cell 2 _ rfl, hF.cell 3 _ rfl, hF.cell 4 _ rfl⟩ : _ /\ _ /\ _ /\ _ /\ _)
 have HB0 := Lib.hid hF.below
 clear hF
 go_upto_region 2 with (fail)
 have hY := Ym.new d.neg d.long d.dg d.ex d.sig W0 35
 generalize W0.alloc _ = W1 at hY ⊢
 clear r0 r1 r2 r3 r4
 obtain ⟨q0, q1, q2, q3, q4, qB⟩ := id hY
 cases hx : hasB 88 d.dg
 . rw [hx] at hM
   have HM := Lib.hid hM
   have hV := fun W => xM d.neg d.long d.dg d.ex d.sig W hy hok hx
   unfold yv at hV
   have HV := Lib.hid hV
   have HP := Lib.hid (aCD (d := d) (n := n) (by unfold Dt.mask; exact hx))
   have hb := PN hok hx
   clear hM hV hok hx
   generalize yVal d.neg d.dg d.ex = v at *
   go_wp2_with fail
   refine (HM.out _).mono ?_; rintro _ w1 ⟨rfl, hb⟩
   replace hY := hY.later hb; clear hb; obtain ⟨q0, q1, q2, q3, q4, qB⟩ := id hY
   go_wp2_with fail
   refine (HV.out _).mono ?_; rintro _ w2 ⟨rfl, hb⟩
   replace hY := hY.later hb; clear hb; obtain ⟨q0, q1, q2, q3, q4, qB⟩ := id hY
   have HB2 := Lib.hid (bt HB0.out hY.below)
   by_cases cn : n <= v
   . rw [decide_eq_true cn] at HP
     go_wp2_with fail
     go_ret2
     exact ⟨_, _, HP.out, rfl, HB2.out⟩
   . go_wp2_with fail
     go_ret2
     exact ⟨_, _, HP.out, rfl, HB2.out⟩
 . have hs : d.long = false /\ d.dg.size = 4 /\ allB dP d.dg = true := by
    rcases Bool.eq_false_or_eq_true d.long with hl | hl
    case inr =>
     rw [hl] at hok
     obtain ⟨h1, h2, _⟩ := iF hok
     exact ⟨hl, h1, h2⟩
    case inl =>
     rw [hl] at hok
     have hd := (jD hok).2.2.1
     have := (kT (vS hd)).2 hd
     rw [hx] at this; cases this
   obtain ⟨-, h4, hdx⟩ := hs
   rw [hx] at hM
   have HM := Lib.hid hM
   have hmk : d.mask = true := by unfold Dt.mask; exact hx
   rcases Bool.eq_false_or_eq_true d.neg with hn | hn
   case inr =>
    as_aux_lemma =>
     have HU := Lib.hid (fun w => QT d.dg n w h4 hdx n0 n1)
     have HP := Lib.hid (fun v ok h => aK4 (n := n) (v := v) (ok := ok) hmk hn h)
     have HN := Lib.hid hn
     clear hM hok hx h4 hdx hmk hn
     go_wp2_with fail
     refine (HM.out _).mono ?_; rintro _ w1 ⟨rfl, hb⟩
     replace hY := hY.later hb; clear hb; obtain ⟨q0, q1, q2, q3, q4, qB⟩ := id hY
     rw [HN.out] at q0
     go_wp2_with fail
     refine (HU.out _).mono ?_; rintro _ w2 ⟨v, ok, hU, rfl, hb⟩
     have HP2 := Lib.hid (HP.out _ _ hU)
     have HB2 := Lib.hid (bt (bt HB0.out hY.below) hb)
     clear hb hU
     go_wp2_with fail
     go_ret2
     exact ⟨_, _, HP2.out, rfl, HB2.out⟩
   case inl =>
    as_aux_lemma =>
     have HU := Lib.hid (fun w => QU d.dg (-(max n (-9223372036854775807))) w h4 hdx)
     have HP := Lib.hid (fun v ok h => aK5 (n := n) (v := v) (ok := ok) hmk hn h)
     have HN := Lib.hid hn
     clear hM hok hx h4 hdx hmk hn
     go_wp2_with fail
     refine (HM.out _).mono ?_; rintro _ w1 ⟨rfl, hb⟩
     replace hY := hY.later hb; clear hb; obtain ⟨q0, q1, q2, q3, q4, qB⟩ := id hY
     rw [HN.out] at q0
     go_wp2_with fail
     refine (HU.out _).mono ?_; rintro _ w2 ⟨v, ok, hU, rfl, hb⟩
     have HP2 := Lib.hid (HP.out _ _ hU)
     have hw : wrap64 (-v) = -v := by
      have g0 := hU.1
      have g1 := hU.2.1
      unfold wrap64; omega
     have HB2 := Lib.hid (bt (bt HB0.out hY.below) hb)
     clear hb hU
     go_wp2_with fail
     rw [hw]
     go_ret2
     exact ⟨_, _, HP2.out, rfl, HB2.out⟩
end Bk
end
section
open Go.RowKit Go.Lib
namespace Bk
open Un (ba bt ri rb aX bP)
theorem O5 (a b : Int) (p : Nat) (w : World) (hc : w.cell? ⟨p, 0, none⟩ = some (.bool true)) :
 Calls Tryz.prog 113 #[.int .i64 a, .int .i64 b, .pointer (some ⟨p, 0, none⟩)] w fun r w' => r = .returned (.bool (decide (a < b))) /\ w = w' := by
 go_enter Tryz.func113, Tryz.ntmps113
 by_cases c : a < b
 . rw [decide_eq_true c]
   go_wp2_with fail
   go_ret
   exact ⟨rfl, rfl⟩
 . rw [decide_eq_false c]
   go_wp2_with fail
   go_ret
   exact ⟨rfl, rfl⟩
def cvv (y m k : Int) : Value := .agg #[.int .i64 y, .int .i64 m, .int .i64 k]
def aN (y m k : Int) : List Value := [.int .i64 y, .int .i64 m, .int .i64 k]
def DK (d : Dt) (cy cm ck : Int) (w : World) (e : Ending) (w' : World) : Prop := ∃ y m k ok, d.jP cy cm ck y m k ok /\ e = .returned (.tuple #[cvv y m k, .bool ok]) /\ Below w.heap.size w w'
structure Sk (d : Dt) (mv dv : Value) (cy cm ck : Int) (p3 p4 p5 p6 : Nat) (w W : World) : Prop where
 f : Rw p3 (gU d mv dv) w W
 c : Rw p4 (aN cy cm ck) w W
 u : Rw p5 [.bool true] w W
 o : Rw p6 (aN 0 0 0) w W
 m : bI W mv d.ms
 d : bI W dv d.ds
theorem Sk.later {d : Dt} {mv dv : Value} {cy cm ck : Int} {p3 p4 p5 p6 : Nat} {w W W2 : World} (h : Sk d mv dv cy cm ck p3 p4 p5 p6 w W) (hb : Below W.heap.size W W2) : Sk d mv dv cy cm ck p3 p4 p5 p6 w W2 :=
 ⟨h.f.later hb, h.c.later hb, h.u.later hb, h.o.later hb, h.m.later hb, h.d.later hb⟩
theorem Sk.new (d : Dt) {mv dv : Value} (cy cm ck : Int) (w : World) (t1 t2 t3 t4 : TypeId) (hm : bI w mv d.ms) (hd : bI w dv d.ds) :
 Sk d mv dv cy cm ck w.heap.size (w.heap.size + 1) (w.heap.size + 1 + 1) (w.heap.size + 1 + 1 + 1) w ((((w.alloc (.cells (gU d mv dv).toArray t1)).alloc (.cells (aN cy cm ck).toArray t2)).alloc (.cells #[.bool true] t3)).alloc (.cells (aN 0 0 0).toArray t4)) := by
 have f1 := Rw.fresh (Below.refl w.heap.size w) (gU d mv dv) t1
 have f2 := Rw.fresh f1.below (aN cy cm ck) t2
 have f3 := Rw.fresh f2.below [.bool true] t3
 have f4 := Rw.fresh f3.below (aN 0 0 0) t4
 simp only [dM] at f2 f3 f4
 refine ⟨?_, ?_, ?_, f4, ?_, ?_⟩
 . exact ((f1.later (ba (Below.refl _ _) _)).later (ba (Below.refl _ _) _)).later (ba (Below.refl _ _) _)
 . exact (f2.later (ba (Below.refl _ _) _)).later (ba (Below.refl _ _) _)
 . exact f3.later (ba (Below.refl _ _) _)
 . exact hm.later f4.below
 . exact hd.later f4.below
theorem aIz {d : Dt} {v m k cy cm ck : Int} {s2 : Bool} (hmd : d.mo.size = 0 -> d.da.size = 0) (hle : cy <= v) (hns : ¬ (v = cy /\ d.mo.size ≠ 0 /\ m < cm)) (h2 : s2 = true ↔ v = cy /\ (d.mo.size = 0 \/ m = cm)) :
 d.ge v m k cy cm ck ↔ ¬ (s2 = true /\ d.da.size ≠ 0 /\ k < ck) := by
 unfold Dt.ge
 rw [h2]
 by_cases c : cy < v
 . exact ⟨fun _ h => by omega, fun _ => .inl c⟩
 . have e : v = cy := by omega
   constructor
   . rintro (h | ⟨_, h⟩) ⟨⟨_, g1⟩, g2, g3⟩
     . exact c h
     . have : d.mo.size ≠ 0 := fun h => g2 (hmd h)
       omega
   . intro h
     refine .inr ⟨e, ?_⟩
     by_cases c1 : d.mo.size = 0
     . exact .inl c1
     . by_cases c2 : m = cm
       . refine .inr (.inr ⟨c2, ?_⟩)
         by_cases c3 : d.da.size = 0
         . exact .inl c3
         . right
           by_cases c4 : k < ck
           . exact absurd ⟨⟨e, .inr c2⟩, c3, c4⟩ h
           . omega
       . right; left; omega
theorem bI.at {W : World} {g n cap : Nat} {l : List Int} (h : bI W (.slice (some ⟨g, 0, none⟩) n cap) l) : ∀ i (hi : i < l.length), W.cell? ⟨g, i, none⟩ = some (.int .i64 (l[i]'hi)) := by
 obtain ⟨g2, cap2, he, _, hc⟩ := h
 cases he
 exact hc
theorem kE : (Tryz.prog.info? 112).map (·.size) = some 3 := by kernel_rfl
theorem eX {fn : Func} {p q : Tmp} {ty : TypeId} (h : fn.results = #[.cell p ty, .tmp q]) (tmps : Array Value) {P : Program} {w : World} {a : Addr} {v u : Value}
 (hp : tmps.getD p undef = .pointer (some a)) (hq : tmps.getD q undef = u) (hl : (loadVar ty a).run P w = .ok v w) : (results fn tmps).run P w = .ok (.tuple #[v, u]) w := by
 have hp' : tmps[p]?.getD undef = .pointer (some a) := by simpa using hp
 have hq' : tmps[q]?.getD undef = u := by simpa using hq
 simp [results, h, hp', hq', asAddr, hl]
theorem VB {d : Dt} {cy cm ck y m k : Int} {ok : Bool} {p6 : Nat} {w wO : World} {tmps : Array Value} (ho : Rw p6 (aN 0 0 0) w wO) (h : d.jP cy cm ck y m k ok)
 (hp : tmps.getD 6 undef = .pointer (some ⟨p6, 0, none⟩)) (hq : tmps.getD 7 undef = .bool ok) :
 bodyPost Tryz.prog Tryz.f83 (DK d cy cm ck w) Exit.ret ⟨tmps, []⟩ (((wO.setCell ⟨p6, 0, none⟩ (.int .i64 y)).setCell ⟨p6, 1, none⟩ (.int .i64 m)).setCell ⟨p6, 2, none⟩ (.int .i64 k)) := by
 have hX := ho.cO (aN y m k) rfl
 have hr := run_loadVar_mid (P := Tryz.prog) _ p6 0 112 (aN y m k) _ hX.range Tryz.underlying112 rfl kE
 exact bodyPost_ret (v := .tuple #[cvv y m k, .bool ok]) (eX Tryz.results83 _ hp hq hr) rfl ⟨y, m, k, ok, h, rfl, hX.below⟩
def OV : Value -> Nat
 | .bool true => 1
 | _ => 0
def muY (y f : Value) : Nat := OV f * (10000000000000002 - intOf y).toNat
structure Yst (d : Dt) (cy cm ck : Int) (v : Int) (ok : Bool) : Prop where
 yes : ok = true -> d.In v /\ cy <= v /\ d.NoY v cy cm ck
 no : ok = false -> ∀ z n j, d.Fill z n j -> ¬ d.ge z n j cy cm ck
theorem Yst.start {d : Dt} {cy cm ck v : Int} {ok : Bool} (h : d.Year cy v ok) : Yst d cy cm ck v ok := by
 have hs := Dt.aDy (cm := cm) (ck := ck) h
 refine ⟨fun e => ?_, hs.2⟩
 rcases h with g | g
 . exact ⟨g.2.1, g.2.2.1, hs.1 e⟩
 . rw [g.1] at e; cases e
theorem Yst.next {d : Dt} {cy cm ck y v : Int} {ok : Bool} (hs : Yst d cy cm ck y true) (hm : d.NoM y cy cm ck d.ms.length) (h : d.Year (y + 1) v ok) : Yst d cy cm ck v ok /\ (ok = true -> y < v) := by
 obtain ⟨h1, h2, h3⟩ := hs.yes rfl
 have hn := Dt.aGq h3 hm h
 rcases h with g | g
 . exact ⟨⟨fun e => ⟨g.2.1, by have := g.2.2.1; omega, hn.1 e⟩, hn.2⟩, fun _ => by have := g.2.2.1; omega⟩
 . refine ⟨⟨fun e => ?_, hn.2⟩, fun e => ?_⟩ <;> (rw [g.1] at e; cases e)
theorem aE0 (d : Dt) (mv dv : Value) (cy cm ck : Int) (w : World) (hk : qI w) (hy : d.dg.size <= 1000) (hok : d.PK = true) (hmd : d.mo.size = 0 -> d.da.size = 0)
 (y0 : -9223372036854775808 <= cy) (y1 : cy < 9223372036854775808) (hm : bI w mv d.ms) (hd : bI w dv d.ds) (hmm : d.da.size ≠ 0 -> ∀ m, m ∈ d.ms -> 1 <= m /\ m <= 12) :
 Calls Tryz.prog 83 #[fmv d mv dv, cvv cy cm ck, .bool true] w (DK d cy cm ck w) := by
 obtain ⟨gm, xm, rfl, -, -⟩ := id hm
 obtain ⟨gd, xd, rfl, -, -⟩ := id hd
 have hS := Sk.new d cy cm ck w 116 112 4 112 hm hd
 have HY := Lib.hid (fun n W h0 h1 => SI d (.slice (some ⟨gm, 0, none⟩) d.ms.length xm) (.slice (some ⟨gd, 0, none⟩) d.ds.length xd) n W hy hok h0 h1)
 have HL := Lib.hid (fun y m W hb h0 h1 hm => D9 d (.slice (some ⟨gm, 0, none⟩) d.ms.length xm) (.slice (some ⟨gd, 0, none⟩) d.ds.length xd) y m W (hk.below (w' := W) hb) h0 h1 hm)
 have HIN := Lib.hid (fun y (h : d.In y) => Dt.tH hok h)
 have HMM := Lib.hid hmm
 have HMD := Lib.hid hmd
 unfold fmv at HY HL
 unfold fmv cvv
 unfold gU aN at hS
 go_enter Tryz.func83, Tryz.ntmps83
 go_upto_region 1 with (fail)
 generalize World.alloc _ _ = W0 at hS ⊢
 generalize w.heap.size + 1 + 1 + 1 = p6 at *
 generalize w.heap.size + 1 + 1 = p5 at *
 generalize w.heap.size + 1 = p4 at *
 clear hk hy hok hm hd hmm hmd
 replace hS : Hid (Sk d (.slice (some ⟨gm, 0, none⟩) d.ms.length xm) (.slice (some ⟨gd, 0, none⟩) d.ds.length xd) cy cm ck w.heap.size p4 p5 p6 w W0) := Lib.hid hS
 have HB0 := Lib.hid hS.out.f.below
 go_cut [8, 9, 10] (fun a b c wx => a = .int .i64 1 /\ .slice (some ⟨gm, 0, none⟩) d.ms.length xm = b /\ .slice (some ⟨gd, 0, none⟩) d.ds.length xd = c /\ Sk d b c cy cm ck w.heap.size p4 p5 p6 w wx)
 case first =>
  have f0 := hS.out.f.cell 10 _ rfl
  have f1 := hS.out.f.cell 11 _ rfl
  go_region_with (fail)
  all_goals (go_wp2_with fail)
  all_goals (go_meet; exact ⟨rfl, rfl, rfl, hS.out.later (Below.refl W0.heap.size W0).drew⟩)
 case rest =>
 obtain ⟨rfl, rfl, rfl, hS⟩ := hcut
 have hu := hS.u.cell 0 _ rfl
 have g0 := hS.c.cell 0 _ rfl
 have hR := hS.f.range
 replace hS := Lib.hid hS
 go_wp2_with (first
  | (refine wpList_load_mid rfl 116 (.tmp 3) rfl w.heap.size 0 rfl (gU d (.slice (some ⟨gm, 0, none⟩) d.ms.length xm) (.slice (some ⟨gd, 0, none⟩) d.ds.length xd)) _ hR Tryz.underlying116 rfl iV ?_)
  | (go_at_call 114; refine (HY.out _ _ y0 y1).mono ?_; rintro _ w1 ⟨v, ok, hv, rfl, hb⟩))
 replace hS : Hid (Sk d (.slice (some ⟨gm, 0, none⟩) d.ms.length xm) (.slice (some ⟨gd, 0, none⟩) d.ds.length xd) cy cm ck w.heap.size p4 p5 p6 w w1) := Lib.hid (hS.out.later hb)
 have HV0 : Hid (Yst d cy cm ck v ok) := Lib.hid (Yst.start hv)
 clear hu g0 hR hv hb HB0
 go_loopw [7, 12, 13] (fun r y f wr => ∃ v ok, r = .bool false /\ y = .int .i64 v /\ f = .bool ok /\ Yst d cy cm ck v ok /\ Sk d (.slice (some ⟨gm, 0, none⟩) d.ms.length xm) (.slice (some ⟨gd, 0, none⟩) d.ds.length xd) cy cm ck w.heap.size p4 p5 p6 w wr) (fun _ y f _ => muY y f)
 case atStart => exact ⟨v, ok, rfl, rfl, rfl, HV0.out, hS.out⟩
 case round =>
  obtain ⟨v, ok, rfl, rfl, rfl, hV, hS⟩ := hrel
  generalize wr = wO at *
  have HV := Lib.hid hV
  have HS := Lib.hid hS
  clear hV hS
  cases ok
  . have HN := Lib.hid (HV.out.no rfl)
    have f0 := HS.out.o.cell 0 _ rfl
    have f1 := HS.out.o.cell 1 _ rfl
    have f2 := HS.out.o.cell 2 _ rfl
    have z0 := HS.out.o.free 0 (by unfold aN; simp)
    have z1 := HS.out.o.free 1 (by unfold aN; simp)
    have z2 := HS.out.o.free 2 (by unfold aN; simp)
    go_wp2_with fail
    exact VB HS.out.o (.inr ⟨rfl, rfl, rfl, rfl, HN.out⟩) rfl rfl
  . obtain ⟨i1, i2, i3⟩ := HV.out.yes rfl
    have HIV := Lib.hid (HIN.out _ i1)
    have HLE := Lib.hid i2
    clear i1 i2 i3
    go_wp2_with fail
    go_step3
    go_wp2_with fail
    go_step3
    go_wp2_with fail
    have HM0 := Lib.hid (Dt.aGr d v cy cm ck)
    go_loopw [7, 55] (fun r i wr => ∃ i' : Nat, r = .bool false /\ i = .int .i64 i' /\ i' <= d.ms.length /\ d.NoM v cy cm ck i' /\ Sk d (.slice (some ⟨gm, 0, none⟩) d.ms.length xm) (.slice (some ⟨gd, 0, none⟩) d.ds.length xd) cy cm ck w.heap.size p4 p5 p6 w wr) (fun _ i _ => d.ms.length - (intOf i).toNat)
    case atStart => exact ⟨0, rfl, rfl, by omega, HM0.out, HS.out⟩
    case round =>
     obtain ⟨i, rfl, rfl, hi, hM, hS⟩ := hrel
     clear HS HM0
     generalize wr = wO at *
     have HS := Lib.hid hS
     have HM := Lib.hid hM
     clear hS hM
     have ml := d.QJ
     by_cases hlt : i < d.ms.length
     . have hcell := HS.out.m.at i hlt
       generalize hme : d.ms[i]'hlt = m at hcell
       have g0 := HS.out.c.cell 0 _ rfl
       go_upto_region 13 with (fail)
       go_cut [16] (fun s wx => ∃ b, s = .bool b /\ (b = true ↔ v = cy) /\ wO = wx)
       case first =>
        go_wp2_with fail
        go_meet
        exact ⟨_, rfl, by simp, rfl⟩
       case rest =>
        obtain ⟨sb, rfl, hsb, rfl⟩ := hcut
        have EY := Lib.hid hsb
        clear hsb g0 hcell
        go_upto_region 14 with (fail)
        go_cut [76] (fun s wx => ∃ b, s = .bool b /\ (b = true ↔ (v = cy /\ d.mo.size ≠ 0 /\ m < cm)) /\ wO = wx)
        case first =>
         have g5 := HS.out.f.cell 5 _ rfl
         have g1 := HS.out.c.cell 1 _ rfl
         have hu := HS.out.u.cell 0 _ rfl
         have HA := Lib.hid (O5 m cm p5 wO hu)
         cases sb
         . have hne : v ≠ cy := fun e => by have := EY.out.2 e; cases this
           go_wp2_with fail
           go_meet
           exact ⟨_, rfl, by simp [hne], rfl⟩
         . have hve := EY.out.1 rfl
           rcases bQ d.mo with ⟨c, e1⟩ | ⟨c, e1⟩
           . have HC := Lib.hid c
             clear c hve
             go_wp2_with fail
             go_meet
             exact ⟨_, rfl, by simp [HC.out], rfl⟩
           . have HC := Lib.hid c
             have HVE := Lib.hid hve
             clear c hve
             generalize hmc : decide (m < cm) = mc at HA
             have HMC := Lib.hid hmc
             clear hmc
             go_wp2_with (go_at_call 113; with_reducible refine HA.out.mono ?_; rintro _ w' ⟨rfl, rfl⟩)
             go_meet
             exact ⟨_, rfl, by rw [<- HMC.out]; simp [HC.out, HVE.out], rfl⟩
        case rest =>
         obtain ⟨b, rfl, hb, rfl⟩ := hcut
         cases b
         . have HNS : Hid (¬ (v = cy /\ d.mo.size ≠ 0 /\ m < cm)) := Lib.hid (fun h => by have := hb.2 h; cases this)
           clear hb
           have hR := HS.out.f.range
           have hl := HL.out v m wO HS.out.f.below HIV.out.1 HIV.out.2 (fun h => HMM.out h m (by rw [<- hme]; exact List.getElem_mem hlt))
           have HLN := Lib.hid hl
           clear hl
           obtain ⟨n, hn⟩ : ∃ n, n = d.len v m := ⟨_, rfl⟩
           rw [<- hn] at HLN
           have HNN := Lib.hid hn
           clear hn
           go_upto_region 16 with (first
            | (refine wpList_load_mid rfl 116 (.tmp 3) rfl w.heap.size 0 rfl (gU d (.slice (some ⟨gm, 0, none⟩) d.ms.length xm) (.slice (some ⟨gd, 0, none⟩) d.ds.length xd)) _ hR Tryz.underlying116 rfl iV ?_)
            | (go_at_call 115; refine HLN.out.mono ?_; rintro _ w2 ⟨rfl, hb⟩))
           replace HS := Lib.hid (HS.out.later hb)
           clear hb hR HLN
           go_cut [16] (fun s wx => ∃ b, s = .bool b /\ (b = true ↔ (v = cy /\ (d.mo.size = 0 \/ m = cm))) /\ w2 = wx)
           case first =>
            have g5 := HS.out.f.cell 5 _ rfl
            have g1 := HS.out.c.cell 1 _ rfl
            cases sb
            . have hne : v ≠ cy := fun e => by have := EY.out.2 e; cases this
              go_wp2_with fail
              go_meet
              exact ⟨_, rfl, by simp [hne], rfl⟩
            . have hve := EY.out.1 rfl
              have HVE := Lib.hid hve
              clear hve
              rcases bQ d.mo with ⟨c, e1⟩ | ⟨c, e1⟩
              . have HC := Lib.hid c
                clear c
                go_wp2_with fail
                go_meet
                exact ⟨_, rfl, by simp [HC.out, HVE.out], rfl⟩
              . have HC := Lib.hid c
                clear c
                go_wp2_with fail
                go_meet
                exact ⟨_, rfl, by simp [HC.out, HVE.out], rfl⟩
           case rest =>
            obtain ⟨s2, rfl, hs2, rfl⟩ := hcut
            have HS2 := Lib.hid hs2
            have HGE := Lib.hid (fun k => aIz (k := k) (ck := ck) HMD.out HLE.out HNS.out hs2)
            clear hs2 EY
            have HK0 := Lib.hid (Dt.aGu d v m cy cm ck)
            go_wp2_with fail
            go_loopw [7, 96] (fun r i wr => ∃ i' : Nat, r = .bool false /\ i = .int .i64 i' /\ i' <= d.ds.length /\ d.NoK v m cy cm ck i' /\ Sk d (.slice (some ⟨gm, 0, none⟩) d.ms.length xm) (.slice (some ⟨gd, 0, none⟩) d.ds.length xd) cy cm ck w.heap.size p4 p5 p6 w wr) (fun _ i _ => d.ds.length - (intOf i).toNat)
            case atStart => exact ⟨0, rfl, rfl, by omega, HK0.out, HS.out⟩
            case round =>
             obtain ⟨j, rfl, rfl, hj, hK, hS⟩ := hrel
             clear HS HK0
             generalize wr = wO at *
             have HS := Lib.hid hS
             have HK := Lib.hid hK
             clear hS hK
             have dl := d.aAY
             by_cases hjt : j < d.ds.length
             . have hcell := HS.out.d.at j hjt
               generalize hke : d.ds[j]'hjt = k at hcell
               go_upto_region 20 with (fail)
               go_cut [119] (fun s wx => ∃ b, s = .bool b /\ (b = true ↔ (k <= n /\ ¬ (s2 = true /\ d.da.size ≠ 0 /\ k < ck))) /\ wO = wx)
               case first =>
                have g6 := HS.out.f.cell 6 _ rfl
                have g2 := HS.out.c.cell 2 _ rfl
                have hu := HS.out.u.cell 0 _ rfl
                have HA := Lib.hid (O5 k ck p5 wO hu)
                by_cases hkn : k <= n
                . cases s2
                  . go_wp2_with fail
                    go_meet
                    exact ⟨_, rfl, by simp [hkn], rfl⟩
                  . rcases bQ d.da with ⟨c, e1⟩ | ⟨c, e1⟩
                    . have HC := Lib.hid c
                      clear c
                      go_wp2_with fail
                      go_meet
                      exact ⟨_, rfl, by simp [HC.out, hkn], rfl⟩
                    . have HC := Lib.hid c
                      clear c
                      generalize hmc : decide (k < ck) = mc at HA
                      have HMC := Lib.hid hmc
                      clear hmc
                      go_wp2_with (go_at_call 113; with_reducible refine HA.out.mono ?_; rintro _ w' ⟨rfl, rfl⟩)
                      go_meet
                      exact ⟨_, rfl, by rw [<- HMC.out]; simp [HC.out, hkn], rfl⟩
                . go_wp2_with fail
                  go_meet
                  exact ⟨_, rfl, ⟨fun h => by simp [hkn] at h, fun h => absurd h.1 (by omega)⟩, rfl⟩
               case rest =>
                obtain ⟨b, rfl, hb, rfl⟩ := hcut
                cases b
                . have HK2 := Lib.hid (Dt.aGv HK.out hjt (fun hle hg => by
                   rw [hke] at hle hg
                   have := hb.2 ⟨by rw [HNN.out]; exact hle, (HGE.out k).1 hg⟩
                   cases this))
                  clear hb HK hcell
                  go_wp2_with fail
                  go_roundw
                  case rel => exact ⟨j + 1, rfl, by go_num, by omega, HK2.out, HS.out⟩
                  case measure => simp [intOf]; omega
                . have hb := hb.1 rfl
                  have HF := Lib.hid (Dt.found (HV.out.yes rfl).1 (HV.out.yes rfl).2.2 HM.out hlt (by rw [hme]; exact HK.out) hjt (by rw [hme, hke, <- HNN.out]; exact hb.1) (by rw [hme, hke]; exact (HGE.out k).2 hb.2))
                  rw [hme, hke] at HF
                  clear hb HK hcell
                  have f0 := HS.out.o.cell 0 _ rfl
                  have f1 := HS.out.o.cell 1 _ rfl
                  have f2 := HS.out.o.cell 2 _ rfl
                  have z0 := HS.out.o.free 0 (by unfold aN; simp)
                  have z1 := HS.out.o.free 1 (by unfold aN; simp)
                  have z2 := HS.out.o.free 2 (by unfold aN; simp)
                  go_wp2_with fail
                  exact VB HS.out.o HF.out rfl rfl
             . obtain rfl : j = d.ds.length := by omega
               have HM2 := Lib.hid (Dt.aGs HM.out hlt (by rw [hme]; exact HK.out))
               clear HK HM
               go_wp2_with fail
               go_roundw
               case rel => exact ⟨i + 1, rfl, by go_num, by omega, HM2.out, HS.out⟩
               case measure => simp [intOf]; omega
         . have hb := hb.1 rfl
           have HB := Lib.hid hb
           have HK := Lib.hid (Dt.aGt HM.out hlt HB.out.1 HB.out.2.1 (by rw [hme]; exact HB.out.2.2))
           clear hb HM
           go_wp2_with fail
           go_roundw
           case rel => exact ⟨i + 1, rfl, by go_num, by omega, HK.out, HS.out⟩
           case measure => simp [intOf]; omega
     . obtain rfl : i = d.ms.length := by omega
       have hR := HS.out.f.range
       have hu := HS.out.u.cell 0 _ rfl
       have hwk : IntKind.i64.wrap (v + 1) = v + 1 := by rw [IntKind.wrap_i64]; have := HIV.out; omega
       have hy := HY.out (v + 1) wO (by have := HIV.out; omega) (by have := HIV.out; omega)
       have HY1 := Lib.hid hy
       clear hy
       go_wp2_with fail
       rw [Exit.noGoto_normal]
       go_wp2_with (first
        | (refine wpList_load_mid rfl 116 (.tmp 3) rfl w.heap.size 0 rfl (gU d (.slice (some ⟨gm, 0, none⟩) d.ms.length xm) (.slice (some ⟨gd, 0, none⟩) d.ds.length xd)) _ hR Tryz.underlying116 rfl iV ?_)
        | (go_at_call 114; refine HY1.out.mono ?_; rintro _ w2 ⟨v2, ok2, hv2, rfl, hb⟩))
       have HX := Lib.hid (Yst.next HV.out HM.out hv2)
       have HS2 := Lib.hid (HS.out.later hb)
       clear hv2 hb hR hu
       go_roundw
       case rel => exact ⟨v2, ok2, rfl, rfl, rfl, HX.out.1, HS2.out⟩
       case measure =>
        have h1 := HIV.out
        have h2 := HX.out.2
        unfold muY
        cases ok2
        . simp [OV, intOf]; omega
        . have := h2 rfl
          simp [OV, intOf]; omega
end Bk
end
section
open Go.RowKit Go.Lib
namespace Sk
open Bk (Dt bZ)
open Ev (eF gZ hp AV uZ pU l_b Y5 oU QY)
abbrev SS (w0 : World) : Prop := eF gZ.g.n gZ.l w0 hp
abbrev Same (w0 : World) (f : FuncId) (args : Array Value) (v : Value) : Prop := Ev.aCt Tryz.prog w0 f args v
theorem Y4 {w0 : World} {f : FuncId} {args : Array Value} {v u : Value} (g : Same w0 f args v) (e : v = u) : Same w0 f args u := e ▸ g
abbrev iZ (k : AV) : AV := .agg [k, pU 1, l_b 2, l_b 3, Y5 4, oU 5, oU 6, Y5 7, Y5 8, uZ 9, uZ 10, uZ 11, uZ 12, QY 13, oU 14, QY 15, oU 16]
abbrev gV : AV := .agg [l_b 0, l_b 1, Y5 2, oU 3, oU 4, Y5 5, Y5 6, uZ 7, uZ 8, uZ 9]
abbrev vU : AV := .agg [l_b 2, l_b 3, Y5 4, oU 5, oU 6, Y5 7, Y5 8, uZ 9, uZ 10, uZ 11]
abbrev rK (a b c d : AV) : AV := .agg [a, b, c, d]
abbrev qi : Nat -> AV := oU
abbrev qe : Nat -> AV := QY
abbrev qb : Nat -> AV := l_b
abbrev qu : Nat -> AV := Ev.uZ
abbrev qs : Nat -> AV := Y5
abbrev qz : AV := .v (.int .i64 0)
abbrev q8 : AV := .v (.int .i8 0)
abbrev qt : AV := .v (.bool true)
abbrev qf : AV := .v (.bool false)
abbrev dL (d : Dt) : List Value := [.bool d.neg, .bool d.long, .string d.dg, .int .i64 d.ex, .int .i64 d.sig, .string d.mo, .string d.da, .int .u8 d.m0, .int .u8 d.m1, .int .u8 d.m2]
abbrev lv (a b : List Value) : Value := .agg (a ++ b).toArray
abbrev LD (t : TypeId) (a b : Value) (z : Bool) : Prop := Ev.EqV Tryz.prog t a b z
def ev (i d : Int) : Value := .agg #[.int .i8 i, .int .i64 d]
def r4 (a lo b hi : Int) : Value := .agg #[.int .i8 a, .int .i64 lo, .int .i8 b, .int .i64 hi]
def lF (k : Int) (v : Value) (d : Dt) (p a lo b hi : Int) : List Value := [.int .u8 k, v, .bool d.neg, .bool d.long, .string d.dg, .int .i64 d.ex, .int .i64 d.sig, .string d.mo, .string d.da, .int .u8 d.m0, .int .u8 d.m1, .int .u8 d.m2, .int .u8 p, .int .i8 a, .int .i64 lo, .int .i8 b, .int .i64 hi]
def fam (k : Int) (v : Value) (d : Dt) (p a lo b hi : Int) : Value := .agg (lF k v d p a lo b hi).toArray
def z0 : Dt := ⟨false, false, ⟨#[]⟩, 0, 0, ⟨#[]⟩, ⟨#[]⟩, 0, 0, 0⟩
theorem FU (a x b y : Int) (z : Bool) (hz : z = decide (a = b /\ x = y)) : LD 40 (ev a x) (ev b y) z := by
 subst hz
 unfold ev
 refine ⟨fun w => ?_, fun w => ?_⟩ <;> · go_simp; (repeat' split) <;> simp_all
end Sk
end
end Go.Proofs.YtacggmlngekidaaGreatDoor
