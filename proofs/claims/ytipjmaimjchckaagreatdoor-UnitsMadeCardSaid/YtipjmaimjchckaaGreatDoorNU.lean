/- PLAIN LAW: the years and dates that layers 14 and 15 make for their statements are right, and have fillings. -/
import Derived.Test.YtipjmaimjchckaaGreatDoorNL
import Derived.Test.YtipjmaimjchckaaGreatDoorND
import Derived.KernelRfl
import Derived.Test.YtipjmaimjchckaaGreatDoorNM
import Derived.Test.YtipjmaimjchckaaGreatDoorNF
import Derived.Deep.CutBlock
/-! PLAIN LAW: the years and dates that layers 14 and 15 make for their statements are right, and have fillings. -/
set_option linter.unusedSimpArgs false
set_option linter.unusedVariables false
set_option maxRecDepth 100000
namespace Go.Proofs.YtipjmaimjchckaaGreatDoor
namespace Bk

/-- A right year without Sig has a number. -/
theorem in_some {d : Dt} (h : d.yok = true) : ∃ y, d.In y := by
  unfold Dt.In
  cases hm : d.mask
  · exact ⟨_, rfl⟩
  · obtain ⟨h4, hx⟩ : d.dg.size = 4 ∧ allB isDigX d.dg = true := by
      unfold Dt.yok at h
      cases hl : d.long
      · rw [hl] at h; obtain ⟨a, b, _⟩ := yOk_short h; exact ⟨a, b⟩
      · rw [hl] at h
        have hd := (yOk_long h).2.2.1
        have := (dig_iff (dig_digX hd)).2 hd
        unfold Dt.mask at hm; rw [this] at hm; cases hm
    have g := fun i hi => digX_asc hx i hi
    have g0 := g 0 (by omega); have g1 := g 1 (by omega); have g2 := g 2 (by omega); have g3 := g 3 (by omega)
    obtain ⟨j, hj, hj8⟩ := (hasB_iff 88 d.dg).1 hm
    have key : ∀ x : Int, x = 88 ∨ (48 ≤ x ∧ x ≤ 57) → ∃ o : Int, 0 ≤ o ∧ o ≤ 9 ∧ (x = 88 ∨ x = 48 + o) ∧ (x = 88 → o = 9) := fun x hx => by
      by_cases c : x = 88
      · exact ⟨9, by omega, by omega, .inl c, fun _ => rfl⟩
      · exact ⟨x - 48, by omega, by omega, .inr (by omega), fun e => absurd e c⟩
    obtain ⟨a, a0, a1, a2, a3⟩ := key _ g0
    obtain ⟨b, b0, b1, b2, b3⟩ := key _ g1
    obtain ⟨c, c0, c1, c2, c3⟩ := key _ g2
    obtain ⟨e, e0, e1, e2, e3⟩ := key _ g3
    have hM : Mat (byt d.dg) (1000 * a + 100 * b + 10 * c + e) := (mat_iff _ _).2 ⟨a, b, c, e, a0, a1, b0, b1, c0, c1, e0, e1, rfl, a2, b2, c2, e2⟩
    cases hn : d.neg
    · exact ⟨_, by rw [if_pos rfl, if_neg (by decide)]; exact hM⟩
    · refine ⟨-(1000 * a + 100 * b + 10 * c + e), ?_⟩
      rw [if_pos rfl, if_pos rfl, Int.neg_neg]
      refine ⟨hM, ?_⟩
      have : j = 0 ∨ j = 1 ∨ j = 2 ∨ j = 3 := by omega
      rcases this with rfl | rfl | rfl | rfl
      · have := a3 hj8; omega
      · have := b3 hj8; omega
      · have := c3 hj8; omega
      · have := e3 hj8; omega

/-- The months and days of D. -/
def moX (k : Nat) : ByteArray := if k = 0 then ⟨#[48, 88]⟩ else if k = 1 then ⟨#[49, 88]⟩ else if k = 2 then ⟨#[88, 50]⟩ else if k = 3 then ⟨#[88, 88]⟩ else if k = 4 then ⟨#[88, 48]⟩ else ⟨#[88, 57]⟩
def daX (k : Nat) : ByteArray := if k = 0 then ⟨#[48, 88]⟩ else if k = 1 then ⟨#[49, 88]⟩ else if k = 2 then ⟨#[50, 88]⟩ else if k = 3 then ⟨#[51, 88]⟩ else if k = 4 then ⟨#[88, 48]⟩ else if k = 5 then ⟨#[88, 49]⟩ else if k = 6 then ⟨#[88, 88]⟩ else ⟨#[88, 56]⟩
def monS (m : Nat) : ByteArray := if m = 0 then ⟨#[]⟩ else if m ≤ 12 then twoS m else if m ≤ 33 then twoS (m + 8) else moX (m - 34)
def mostS (m : Nat) : Nat := if m = 2 then 28 else if m = 4 ∨ m = 6 ∨ m = 9 ∨ m = 11 ∨ m = 39 then 30 else 31
def dayS (m k : Nat) : ByteArray := if k = 0 then ⟨#[]⟩ else if k ≤ 31 then twoS (min k (mostS m)) else if m = 2 ∧ k = 35 then daX 2 else daX (k - 32)
/-- Some day of some month of a common year agrees. -/
def someD (mo da : ByteArray) : Bool := (List.range 12).any fun n => agrB mo ((n : Int) + 1) && (List.range 31).any fun j => agrB da ((j : Int) + 1) && decide (j + 1 ≤ (if n + 1 = 2 then 28 else if n + 1 = 4 ∨ n + 1 = 6 ∨ n + 1 = 9 ∨ n + 1 = 11 then 30 else 31))
def monB (m : Nat) : Bool := m == 0 || (decide ((monS m).size = 2) && (decide (seasonC (monS m) ≠ 0) || someA (monS m) 12))
def dayB (m k : Nat) : Bool := m == 0 || (k == 0 || (decide (seasonC (monS m) ≠ 0) || (decide ((dayS m k).size = 2) && (someA (dayS m k) 31 && someD (monS m) (dayS m k)))))
theorem mon_all : ((List.range 40).all fun m => monB m) = true := by kernel_rfl
theorem day_all : ((List.range 40).all fun m => (List.range 40).all fun k => dayB m k) = true := by kernel_rfl
theorem mon_at {m : Nat} (h : m < 40) : monB m = true := by
  have := mon_all
  rw [List.all_eq_true] at this
  exact this m (List.mem_range.2 h)
theorem day_at {m k : Nat} (h : m < 40) (hk : k < 40) : dayB m k = true := by
  have := day_all
  rw [List.all_eq_true] at this
  have := this m (List.mem_range.2 h)
  rw [List.all_eq_true] at this
  exact this k (List.mem_range.2 hk)
theorem mon_ok {m : Nat} (h : m < 40) (h0 : m ≠ 0) : (monS m).size = 2 ∧ (seasonC (monS m) ≠ 0 ∨ someA (monS m) 12 = true) := by
  have := mon_at h
  unfold monB at this
  simp only [Bool.or_eq_true, Bool.and_eq_true, decide_eq_true_eq, beq_iff_eq] at this
  rcases this with h | h
  · exact absurd h h0
  · exact h
theorem day_ok {m k : Nat} (h : m < 40) (hk : k < 40) (h0 : m ≠ 0) (k0 : k ≠ 0) (hs : seasonC (monS m) = 0) : (dayS m k).size = 2 ∧ someA (dayS m k) 31 = true ∧ someD (monS m) (dayS m k) = true := by
  have := day_at h hk
  unfold dayB at this
  simp only [Bool.or_eq_true, Bool.and_eq_true, decide_eq_true_eq, beq_iff_eq] at this
  rcases this with h | h | h | h
  · exact absurd h h0
  · exact absurd h k0
  · exact absurd hs h
  · exact h
theorem someD_iff {mo da : ByteArray} (h : someD mo da = true) : ∃ n j : Int, 1 ≤ n ∧ n ≤ 12 ∧ agrB mo n = true ∧ 1 ≤ j ∧ j ≤ 31 ∧ agrB da j = true ∧ ∀ y, j ≤ Cal.len y n := by
  unfold someD at h
  simp only [List.any_eq_true, List.mem_range, Bool.and_eq_true, decide_eq_true_eq] at h
  obtain ⟨n, hn, ha, j, hj, hb, hl⟩ := h
  refine ⟨(n : Int) + 1, (j : Int) + 1, by omega, by omega, ha, by omega, by omega, hb, fun y => ?_⟩
  unfold Cal.len Cal.lp
  (repeat' split at hl) <;> (repeat' split) <;> omega

/-- The years of Y. -/
def dgt (n : Nat) : UInt8 := UInt8.ofNat (48 + n)
def fourS (n : Nat) : ByteArray := ⟨#[dgt (n / 1000), dgt (n / 100 % 10), dgt (n / 10 % 10), dgt (n % 10)]⟩
theorem dgt_nat {n : Nat} (h : n ≤ 9) : (dgt n).toNat = 48 + n := by unfold dgt; rw [UInt8.toNat_ofNat']; omega
/-- What is asked of the year that Y makes. -/
def YGood (neg long : Bool) (s : ByteArray) (ex sig : Int) : Prop := yOk neg long s ex sig = true ∧ (hasB 88 s = false → magV s ex ≠ 10000000000000000) ∧ 0 ≤ sig ∧ sig ≤ 100 ∧ 0 ≤ ex ∧ ex ≤ 16 ∧ s.size ≤ 5
/-- Or it is right once its sign is dropped. -/
def YNear (neg long : Bool) (s : ByteArray) (ex sig : Int) : Prop := YGood neg long s ex sig ∨ (yOk neg long s ex sig = false ∧ YGood false long s ex sig)

theorem fourS_size (n : Nat) : (fourS n).size = 4 := rfl
theorem fourS_dig {n : Nat} (h : n < 10000) : allB isDig (fourS n) = true := by
  show ([dgt (n / 1000), dgt (n / 100 % 10), dgt (n / 10 % 10), dgt (n % 10)].all fun b => isDig (b.toNat : Int)) = true
  have e : ∀ k, k ≤ 9 → isDig ((dgt k).toNat : Int) = true := fun k hk => by rw [dgt_nat hk]; unfold isDig; exact decide_eq_true (by omega)
  simp only [List.all_cons, List.all_nil, Bool.and_true, Bool.and_eq_true]
  exact ⟨e _ (by omega), e _ (by omega), e _ (by omega), e _ (by omega)⟩
theorem good_short {neg : Bool} {s : ByteArray} {sig : Int} (h4 : s.size = 4) (hx : allB isDigX s = true) (hn : neg = true → allB isZ s = false) (hs : sig ≠ 0 → hasB 88 s = false) (s0 : 0 ≤ sig) (s1 : sig ≤ 4) : YGood neg false s 0 sig := by
  refine ⟨?_, fun h8 => ?_, s0, by omega, by omega, by omega, by omega⟩
  · unfold yOk shortOk
    rw [decide_eq_true h4, hx]
    have e1 : (neg && allB isZ s) = false := by cases neg; rfl; rw [hn rfl]; rfl
    have e2 : (!decide (sig = 0) && hasB 88 s) = false := by
      by_cases c : sig = 0
      · rw [decide_eq_true c]; rfl
      · rw [hs c, Bool.and_false]
    rw [e1, e2, decide_eq_true s0, decide_eq_true (show sig ≤ (s.size : Int) + 0 by omega)]
    rfl
  · have hd := (dig_iff hx).1 h8
    have := decS_lt4 hd h4
    unfold magV; unfold p10; simp; omega
/-- Plain digits, or with Sig. -/
theorem near_plain {n : Nat} (hn : n < 10000) (neg : Bool) {sig : Int} (s0 : 0 ≤ sig) (s1 : sig ≤ 4) : YNear neg false (fourS n) 0 sig := by
  have hd := fourS_dig hn
  have hx := dig_digX hd
  have h8 := (dig_iff hx).2 hd
  by_cases c : neg = true ∧ allB isZ (fourS n) = true
  · refine .inr ⟨?_, good_short rfl hx (fun h => by cases h) (fun _ => h8) s0 s1⟩
    unfold yOk shortOk
    rw [c.1, c.2, hx]
    simp
  · exact .inl (good_short rfl hx (fun h => by cases e : allB isZ (fourS n); rfl; exact absurd ⟨h, e⟩ c) (fun _ => h8) s0 s1)
/-- With X. -/
def xS (s : ByteArray) (a b : Int) : Nat → ByteArray
  | 0 => ⟨#[]⟩
  | i + 1 => xS s a b i ++ (if (i : Int) = a ∨ (i : Int) = b then ⟨#[88]⟩ else s.extract i (i + 1))
theorem xS_succ (s : ByteArray) (a b : Int) (i : Nat) : xS s a b (i + 1) = xS s a b i ++ (if (i : Int) = a ∨ (i : Int) = b then ⟨#[88]⟩ else s.extract i (i + 1)) := rfl
theorem xS_facts {s : ByteArray} (h4 : s.size = 4) (hd : allB isDig s = true) {a b : Int} (a0 : 0 ≤ a) (a1 : a < 4) : (xS s a b 4).size = 4 ∧ allB isDigX (xS s a b 4) = true ∧ hasB 88 (xS s a b 4) = true := by
  have hl : s.data.toList.length = 4 := by simpa using h4
  match e : s.data.toList, hl with
  | [x0, x1, x2, x3], _ =>
    have hs : s = ⟨#[x0, x1, x2, x3]⟩ := ba_ext e
    have hx := hd
    unfold allB at hx; rw [e] at hx
    simp only [List.all_cons, List.all_nil, Bool.and_true, Bool.and_eq_true] at hx
    obtain ⟨y0, y1, y2, y3⟩ := hx
    have dx : ∀ z : Int, isDig z = true → isDigX z = true := fun z h => by unfold isDig at h; unfold isDigX; rw [h]; rfl
    have t0 : s.extract 0 1 = ⟨#[x0]⟩ := by rw [hs]; rfl
    have t1 : s.extract 1 2 = ⟨#[x1]⟩ := by rw [hs]; rfl
    have t2 : s.extract 2 3 = ⟨#[x2]⟩ := by rw [hs]; rfl
    have t3 : s.extract 3 4 = ⟨#[x3]⟩ := by rw [hs]; rfl
    have key : ∀ (i : Nat) (t : ByteArray) (x : UInt8), t = ⟨#[x]⟩ → isDig (x.toNat : Int) = true → ∃ z : UInt8, (if (i : Int) = a ∨ (i : Int) = b then (⟨#[88]⟩ : ByteArray) else t) = ⟨#[z]⟩ ∧ isDigX (z.toNat : Int) = true ∧ ((i : Int) = a → z = 88) := fun i t x ht hx => by
      split
      · exact ⟨88, rfl, rfl, fun _ => rfl⟩
      · rename_i h; exact ⟨x, ht, dx _ hx, fun c => absurd (.inl c) h⟩
    obtain ⟨z0, e0, d0, w0⟩ := key 0 _ x0 t0 y0
    obtain ⟨z1, e1, d1, w1⟩ := key 1 _ x1 t1 y1
    obtain ⟨z2, e2, d2, w2⟩ := key 2 _ x2 t2 y2
    obtain ⟨z3, e3, d3, w3⟩ := key 3 _ x3 t3 y3
    have hE : xS s a b 4 = ⟨#[z0, z1, z2, z3]⟩ := by
      rw [xS_succ, xS_succ, xS_succ, xS_succ]
      rw [e0, e1, e2, e3]
      exact ba_ext (by simp [xS])
    rw [hE]
    refine ⟨rfl, ?_, ?_⟩
    · show ([z0, z1, z2, z3].all fun b => isDigX (b.toNat : Int)) = true
      simp only [List.all_cons, List.all_nil, Bool.and_true, Bool.and_eq_true]
      exact ⟨d0, d1, d2, d3⟩
    · show ([z0, z1, z2, z3].any fun b => decide ((b.toNat : Int) = 88)) = true
      simp only [List.any_cons, List.any_nil, Bool.or_false, Bool.or_eq_true, decide_eq_true_eq]
      have : a = 0 ∨ a = 1 ∨ a = 2 ∨ a = 3 := by omega
      rcases this with h | h | h | h
      · exact .inl (by rw [w0 (by omega)]; rfl)
      · exact .inr (.inl (by rw [w1 (by omega)]; rfl))
      · exact .inr (.inr (.inl (by rw [w2 (by omega)]; rfl)))
      · exact .inr (.inr (.inr (by rw [w3 (by omega)]; rfl)))
theorem near_x {n : Nat} (hn : n < 10000) (neg : Bool) {a b : Int} (a0 : 0 ≤ a) (a1 : a < 4) : YNear neg false (xS (fourS n) a b 4) 0 0 := by
  obtain ⟨h4, hx, h8⟩ := xS_facts (s := fourS n) rfl (fourS_dig hn) (b := b) a0 a1
  refine .inl (good_short h4 hx (fun _ => ?_) (fun h => absurd rfl h) (by omega) (by omega))
  cases e : allB isZ (xS (fourS n) a b 4)
  · rfl
  · obtain ⟨j, hj, hj8⟩ := (hasB_iff 88 _).1 h8
    have := (allB_iff isZ _).1 e j hj
    rw [hj8] at this; cases this
/-- Long. -/
def longS (n z : Nat) : ByteArray := ⟨#[dgt (z % 9 + 1)]⟩ ++ fourS n
theorem longS_dig {n : Nat} (hn : n < 10000) (z : Nat) : allB isDig (longS n z) = true := by
  have h2 := fourS_dig hn
  have e : ∀ k, k ≤ 9 → isDig ((dgt k).toNat : Int) = true := fun k hk => by rw [dgt_nat hk]; unfold isDig; exact decide_eq_true (by omega)
  unfold allB at h2 ⊢
  unfold longS
  rw [ByteArray.data_append, Array.toList_append, List.all_append, h2, Bool.and_true]
  show ([dgt (z % 9 + 1)].all fun b => isDig (b.toNat : Int)) = true
  simp only [List.all_cons, List.all_nil, Bool.and_true]
  exact e _ (by omega)
theorem longS_size (n z : Nat) : (longS n z).size = 5 := rfl
theorem near_long (neg : Bool) {s t : ByteArray} {n z k : Nat} {ex sig : Int} (hn : n < 10000) (hs : s = longS n z) (ht : t = s.extract 0 k) (k0 : 1 ≤ k) (k1 : k ≤ 5) (e0 : 0 ≤ ex) (e1 : ex ≤ 11) (hk : ex = 0 → k = 5) (s0 : 0 ≤ sig) (s1 : sig ≤ k + ex) : YNear neg true t ex sig := by
  have hd := longS_dig hn z
  have hsz : s.size = 5 := by rw [hs]; rfl
  have htz : t.size = k := by rw [ht, ByteArray.size_extract, hsz]; omega
  have hb : ∀ i, i < k → byt t i = byt s i := fun i hi => by
    rw [byt_get t i (by omega), byt_get s i (by omega)]
    subst ht
    rw [ByteArray.getElem_extract]
    simp
  have hdt : allB isDig t = true := by
    rw [allB_iff]; intro i hi
    rw [hb i (by omega)]
    rw [← hs] at hd
    exact (allB_iff isDig s).1 hd i (by omega)
  have hb0 : byt t 0 ≠ 48 := by
    rw [hb 0 (by omega), hs]
    show ((dgt (z % 9 + 1)).toNat : Int) ≠ 48
    rw [dgt_nat (by omega)]; omega
  have hm1 : decS t < 100000 := by
    have := dec_lt t.data.toList 0 0 (allB_digB hdt) (by decide)
    rw [Nat.zero_add] at this
    have htl : t.data.toList.length = t.size := by simp
    have hp : (10 : Nat) ^ t.data.toList.length ≤ 10 ^ 5 := Nat.pow_le_pow_right (by omega) (by omega)
    have hp2 : (10 : Nat) ^ 5 = 100000 := by decide
    unfold decS
    omega
  have hm0 := decS_pos t
  have hp : p10 ex.toNat ≤ 100000000000 ∧ 1 ≤ p10 ex.toNat := by
    have : ex.toNat ≤ 11 := by omega
    refine ⟨?_, p10_pos _⟩
    unfold p10
    have h1 : (10 : Nat) ^ ex.toNat ≤ 10 ^ 11 := Nat.pow_le_pow_right (by omega) this
    have h3 : (10 : Nat) ^ 11 = 100000000000 := by decide
    have e : ((10 : Int) ^ ex.toNat) = ((10 ^ ex.toNat : Nat) : Int) := by simp
    rw [e]; omega
  have hm : magV t ex < 10000000000000000 := by
    unfold magV
    have : decS t * p10 ex.toNat ≤ 99999 * 100000000000 := Int.mul_le_mul (by omega) hp.1 (by omega) (by omega)
    omega
  refine .inl ⟨?_, fun _ => by omega, s0, by omega, e0, by omega, by omega⟩
  unfold yOk longOk
  simp only [if_true, Bool.and_eq_true, decide_eq_true_eq, Bool.not_eq_true', Bool.and_eq_false_iff, decide_eq_false_iff_not]
  rw [htz]
  refine ⟨⟨by omega, by omega, hdt, hb0, e0, by omega, ?_, by omega⟩, s0, by omega⟩
  by_cases c : ex = 0
  · right; have := hk c; omega
  · exact .inl c

/-- What D makes is right, and has a filling if it has no Sig. -/
theorem made_ok {d : Dt} (hy : YGood d.neg d.long d.dg d.ex d.sig) (hsm : 0 < d.sig → d.mo.size = 0) {m k : Nat} (hm : m < 40) (hk : k < 40) (hmo : d.mo = monS m ∨ d.mo.size = 0) (hda : d.da.size = 0 ∨ (d.mo = monS m ∧ m ≠ 0 ∧ k ≠ 0 ∧ d.season = 0 ∧ d.da = dayS m k)) (hma : marksE d.m0 d.m1 d.m2 (comps d.mo d.da) = 0) :
    d.err = 0 ∧ ∃ y m k, d.Fill y m k := by
  obtain ⟨h1, h2, h3, h4, h5, h6, h7⟩ := hy
  have hmz : d.mo.size = 0 ∨ (d.season ≠ 0 ∨ someA d.mo 12 = true) := by
    rcases hmo with h | h
    · by_cases c : m = 0
      · left; rw [h, c]; rfl
      · right; have := (mon_ok hm c).2; unfold Dt.season; rw [h]; exact this
    · exact .inl h
  have hfar : d.far = false := by
    unfold Dt.far
    cases e : d.mask
    · have : decide (d.mag = 10000000000000000) = false := decide_eq_false (h2 e)
      rw [this]; simp
    · simp
  have hyo : d.yearOk = true := by
    unfold Dt.yearOk
    have e : (decide (0 < d.sig) && !decide (d.mo.size = 0)) = false := by
      by_cases c : 0 < d.sig
      · rw [decide_eq_true (hsm c)]; simp
      · rw [decide_eq_false c]; rfl
    rw [hfar, e, show d.yok = true from h1]; rfl
  have hf : d.form = 0 := by
    unfold Dt.form
    rw [hyo, if_neg (by decide), if_neg (by
      rcases hmz with h | h | h
      · rw [decide_eq_true h]; simp
      · rw [decide_eq_false h]; simp
      · rw [h]; simp), if_neg (by
      rcases hda with h | ⟨e1, e2, e3, e4, e5⟩
      · rw [decide_eq_true h]; simp
      · have hs := (mon_ok hm e2).1
        have : seasonC (monS m) = 0 := by rw [← e1]; exact e4
        have hh := day_ok hm hk e2 e3 this
        rw [e5, e1, decide_eq_false (show ¬ (monS m).size = 0 by omega), decide_eq_true e4, hh.2.1]; simp)]
    exact hma
  have hfil : ∃ y m k, d.Fill y m k := by
    obtain ⟨y, hy⟩ := in_some (d := d) h1
    rcases hda with h | ⟨e1, e2, e3, e4, e5⟩
    · have : ∃ n, n ∈ d.ms := by
        unfold Dt.ms
        split
        · exact ⟨_, List.mem_cons_self ..⟩
        · rename_i hz
          split
          · exact ⟨_, List.mem_cons_self ..⟩
          · rename_i hz2
            have hz0 : d.season = 0 := by omega
            rcases hmz with g | g | g
            · exact absurd g hz2
            · exact absurd hz0 g
            · rw [fitsL_some] at g
              cases e : fitsL d.mo 12 with
              | nil => exact absurd e g
              | cons x l => exact ⟨x, List.mem_cons_self ..⟩
      obtain ⟨n, hn⟩ := this
      refine ⟨y, n, 0, hy, hn, ?_, ?_⟩
      · unfold Dt.ds; rw [if_pos h]; exact List.mem_cons_self ..
      · unfold Dt.len; rw [if_pos h]; omega
    · have : seasonC (monS m) = 0 := by rw [← e1]; exact e4
      have hh := day_ok hm hk e2 e3 this
      have hs := (mon_ok hm e2).1
      obtain ⟨n, j, n0, n1, na, j0, j1, ja, hl⟩ := someD_iff hh.2.2
      refine ⟨y, n, j, hy, ?_, ?_, ?_⟩
      · unfold Dt.ms; rw [if_neg (by omega), if_neg (by rw [e1]; omega), mem_fitsL]
        exact ⟨n0, by omega, by rw [e1]; exact na⟩
      · unfold Dt.ds; rw [if_neg (by rw [e5]; omega), mem_fitsL]
        exact ⟨j0, by omega, by rw [e5]; exact ja⟩
      · unfold Dt.len; split
        · rename_i hz; rw [e5] at hz; omega
        · exact hl y
  refine ⟨?_, hfil⟩
  unfold Dt.err
  rw [hf, if_neg (by decide), if_neg (fun h => h.2 hfil)]
end Bk
end Go.Proofs.YtipjmaimjchckaaGreatDoor

/-! THE WALKS of what layers 14 and 15 make for their statements: four, month, day. -/
set_option linter.unusedSimpArgs false
set_option linter.unusedVariables false
set_option maxRecDepth 100000
namespace Go.Proofs.YtipjmaimjchckaaGreatDoor
open Go.RowKit Go.Lib
namespace Bk
open Un (ba bt ri rb ret2_ii ret2_bi)

theorem ext_dg : ∀ k : Nat, k < 10 → digS.extract k (k + 1) = ⟨#[dgt k]⟩ := by decide
theorem four_cat {m : Nat} (h : m < 10000) : digS.extract (m / 1000) (m / 1000 + 1) ++ digS.extract (m / 100 % 10) (m / 100 % 10 + 1) ++ digS.extract (m / 10 % 10) (m / 10 % 10 + 1) ++ digS.extract (m % 10) (m % 10 + 1) = fourS m := by
  rw [ext_dg _ (by omega), ext_dg _ (by omega), ext_dg _ (by omega), ext_dg _ (by omega)]
  exact ba_ext (by simp [fourS])

set_option maxHeartbeats 1000000 in
theorem four_any (n : Nat) (w : World) (h : n < 65536) :
    Calls Tryz.prog 93 #[.int .u16 n] w fun r w' => r = .returned (.string (fourS (n % 10000))) ∧ Below w.heap.size w w' := by
  obtain ⟨m, hm0⟩ : ∃ m, m = n % 10000 := ⟨_, rfl⟩
  rw [← hm0]
  have HT := Lib.hid (four_cat (m := m) (by omega))
  have HM := Lib.hid hm0
  unfold digS at HT
  clear hm0
  go_enter Tryz.func93, Tryz.ntmps93
  go_upto_region 2 with (fail)
  go_cut [0] (fun s wx => s = .int .u16 (m : Int) ∧ w = wx)
  case first =>
    clear HT
    go_wp2
    go_meet
    exact ⟨by rw [HM.out]; go_num, rfl⟩
  case rest =>
  obtain ⟨rfl, rfl⟩ := hcut
  have hm : m < 10000 := by rw [HM.out]; omega
  go_wp2
  go_quiet (fail)
  go_wp2
  all_goals go_ret
  all_goals exact ⟨rs HT.out, below_drewN (Below.refl _ _) _⟩

/-- D's cells. -/
def ddl (f : Nat) (neg : Bool) (n z0 z1 mo da k0 k1 k2 : Nat) : List Value := [.int .u8 f, .bool neg, .int .u16 n, .int .u8 z0, .int .u8 z1, .int .u8 mo, .int .u8 da, .int .u8 k0, .int .u8 k1, .int .u8 k2]

theorem month_any (f : Nat) (neg : Bool) (n z0 z1 mo da k0 k1 k2 : Nat) (w : World) (h : mo < 256) :
    Calls Tryz.prog 64 #[.agg (ddl f neg n z0 z1 mo da k0 k1 k2).toArray] w fun r w' => r = .returned (.string (monS (mo % 40))) ∧ Below w.heap.size w w' := by
  have hD : Rw w.heap.size (ddl f neg n z0 z1 mo da k0 k1 k2) w _ := Rw.fresh (Below.refl _ _) _ 70
  have HT := Lib.hid (fun (n : Nat) (h : n ≤ 99) w => rTwo_any n w h)
  unfold ddl at hD
  unfold ddl
  obtain ⟨m, hm0⟩ : ∃ m, m = mo % 40 := ⟨_, rfl⟩
  rw [← hm0]
  have HM := Lib.hid hm0
  clear hm0
  go_enter Tryz.func64, Tryz.ntmps64
  go_upto_region 1 with (fail)
  generalize World.alloc _ _ = W0 at hD ⊢
  have c5 := hD.cell 5 _ rfl
  have hB := hD.below
  go_cut [3] (fun s wx => s = .int .i64 (m : Int) ∧ Below w.heap.size w wx)
  case first =>
    clear HT
    go_wp2
    go_meet
    exact ⟨by rw [HM.out]; go_num, hB⟩
  case rest =>
  obtain ⟨rfl, hB⟩ := hcut
  clear c5 hD
  have hm : m < 40 := by rw [HM.out]; omega
  clear HM
  by_cases c0 : m = 0
  · subst c0
    clear HT
    go_wp2
    go_ret
    exact ⟨rfl, hB⟩
  by_cases c1 : m ≤ 12
  · have HQ : Hid (twoS m = monS m) := Lib.hid (by unfold monS; rw [if_neg c0, if_pos c1])
    have HT2 := Lib.hid (fun w => HT.out m (by omega) w)
    clear HT
    go_wp2_with (go_at_call 95; with_reducible refine (HT2.out _).mono ?_; rintro _ w' ⟨rfl, hb⟩)
    go_ret
    exact ⟨rs HQ.out, bt hB hb⟩
  by_cases c2 : m ≤ 33
  · have HQ : Hid (twoS (m + 8) = monS m) := Lib.hid (by unfold monS; rw [if_neg c0, if_neg c1, if_pos c2])
    have HT2 : Hid (∀ w, Calls Tryz.prog 95 #[.int .i64 ((m : Int) + 8)] w fun r w' => r = .returned (.string (twoS (m + 8))) ∧ Below w.heap.size w w') := Lib.hid (fun w => HT.out (m + 8) (by omega) w)
    clear HT
    go_wp2_with (go_at_call 95; with_reducible refine (HT2.out _).mono ?_; rintro _ w' ⟨rfl, hb⟩)
    go_ret
    exact ⟨rs HQ.out, bt hB hb⟩
  clear HT
  have : m = 34 ∨ m = 35 ∨ m = 36 ∨ m = 37 ∨ m = 38 ∨ m = 39 := by omega
  rcases this with rfl | rfl | rfl | rfl | rfl | rfl
  all_goals
    go_wp2
    go_ret
    exact ⟨rfl, by first | exact bt hB (ba (Below.refl _ _) _) | exact ba hB _⟩
/-- The day's tests of its month. -/
def dtB (m : Nat) : Bool := ((monS m).data.toList == [48, 50]) == decide (m = 2) && (((monS m).data.toList == [48, 52]) == decide (m = 4) && (((monS m).data.toList == [48, 54]) == decide (m = 6) && (((monS m).data.toList == [48, 57]) == decide (m = 9) && (((monS m).data.toList == [49, 49]) == decide (m = 11) && ((monS m).data.toList == [88, 57]) == decide (m = 39)))))
theorem dt_all : ((List.range 40).all fun m => dtB m) = true := by kernel_rfl
theorem dt_at {m : Nat} (h : m < 40) {s : ByteArray} (hs : s = monS m) : (s.toList == [48, 50]) = decide (m = 2) ∧ (s.toList == [48, 52]) = decide (m = 4) ∧ (s.toList == [48, 54]) = decide (m = 6) ∧ (s.toList == [48, 57]) = decide (m = 9) ∧ (s.toList == [49, 49]) = decide (m = 11) ∧ (s.toList == [88, 57]) = decide (m = 39) := by
  have := dt_all
  rw [List.all_eq_true] at this
  have := this m (List.mem_range.2 h)
  unfold dtB at this
  rw [ByteArray.toList_eq, hs]
  simp only [Bool.and_eq_true, beq_iff_eq] at this
  exact this
set_option maxHeartbeats 2000000 in
theorem day_any (f : Nat) (neg : Bool) (n z0 z1 mo da k0 k1 k2 m : Nat) (w : World) (h : da < 256) (hm : m < 40) (h0 : m ≠ 0) (hs : seasonC (monS m) = 0) :
    Calls Tryz.prog 66 #[.agg (ddl f neg n z0 z1 mo da k0 k1 k2).toArray, .string (monS m)] w fun r w' => r = .returned (.string (dayS m (da % 40))) ∧ Below w.heap.size w w' := by
  have hD : Rw w.heap.size (ddl f neg n z0 z1 mo da k0 k1 k2) w _ := Rw.fresh (Below.refl _ _) _ 70
  have HT := Lib.hid (fun (n : Nat) (h : n ≤ 99) w => rTwo_any n w h)
  unfold ddl at hD
  unfold ddl
  obtain ⟨k, hk0⟩ : ∃ k, k = da % 40 := ⟨_, rfl⟩
  rw [← hk0]
  have HM := Lib.hid hk0
  clear hk0
  obtain ⟨s, hs0⟩ : ∃ s, s = monS m := ⟨_, rfl⟩
  rw [← hs0]
  have HS := Lib.hid hs0
  have HZ := Lib.hid hs
  clear hs0 hs
  go_enter Tryz.func66, Tryz.ntmps66
  go_upto_region 1 with (fail)
  generalize World.alloc _ _ = W0 at hD ⊢
  have c6 := hD.cell 6 _ rfl
  have hB := hD.below
  go_cut [5] (fun s wx => s = .int .i64 (k : Int) ∧ Below w.heap.size w wx)
  case first =>
    clear HT
    go_wp2
    go_meet
    exact ⟨by rw [HM.out]; go_num, hB⟩
  case rest =>
  obtain ⟨rfl, hB⟩ := hcut
  clear c6 hD
  have hk : k < 40 := by rw [HM.out]; omega
  clear HM
  by_cases c0 : k = 0
  · subst c0
    clear HT HS HZ
    go_wp2
    go_ret
    exact ⟨rfl, hB⟩
  by_cases c1 : k ≤ 31
  · obtain ⟨M, hM0⟩ : ∃ M, M = mostS m := ⟨_, rfl⟩
    have HMS := Lib.hid hM0
    have hq0 : twoS (min k M) = dayS m k := by unfold dayS; rw [if_neg c0, if_pos c1, hM0]
    have hmin : min k M ≤ 99 := by omega
    have HQ := Lib.hid hq0
    have HT2 := Lib.hid (fun w => HT.out (min k M) hmin w)
    clear hM0 hq0 hmin HT
    go_upto_block 0 with (fail)
    go_cut [6] (fun s wx => s = .int .i64 (M : Int) ∧ Below w.heap.size w wx)
    case first =>
      clear HZ HT2 HQ
      obtain ⟨t2, t4, t6, t9, t11, t39⟩ := dt_at hm HS.out
      clear HS
      have hM := HMS.out
      clear HMS
      unfold mostS at hM
      by_cases g2 : m = 2
      · rw [if_pos g2] at hM; rw [decide_eq_true g2] at t2
        subst hM; clear t4 t6 t9 t11 t39 g2 hm h0
        go_wp2
        go_meet
        exact ⟨rfl, hB⟩
      rw [if_neg g2] at hM; rw [decide_eq_false g2] at t2
      by_cases g4 : m = 4 ∨ m = 6 ∨ m = 9 ∨ m = 11 ∨ m = 39
      · rw [if_pos g4] at hM; subst hM
        rcases g4 with rfl | rfl | rfl | rfl | rfl
        all_goals
          simp only [decide_true, Nat.reduceEqDiff, decide_false] at t4 t6 t9 t11 t39
          clear hm h0 g2
          go_wp2
          go_meet
          exact ⟨rfl, hB⟩
      · rw [if_neg g4] at hM; subst hM
        rw [decide_eq_false (by omega)] at t4 t6 t9 t11 t39
        clear g4 g2 hm h0
        go_wp2
        go_meet
        exact ⟨rfl, hB⟩
    case rest =>
    obtain ⟨rfl, hB⟩ := hcut
    clear HMS HS HZ
    rw [show ((min k M : Nat) : Int) = min (k : Int) (M : Int) from by omega] at HT2
    go_wp2_with (go_at_call 95; with_reducible refine (HT2.out _).mono ?_; rintro _ w' ⟨rfl, hb⟩)
    go_ret
    exact ⟨rs HQ.out, bt hB hb⟩
  have t2 := (dt_at hm HS.out).1
  clear HT HZ HS
  have hkk : k = 32 ∨ k = 33 ∨ k = 34 ∨ k = 35 ∨ k = 36 ∨ k = 37 ∨ k = 38 ∨ k = 39 := by omega
  by_cases g2 : m = 2
  · subst g2
    rw [decide_eq_true rfl] at t2
    rcases hkk with rfl | rfl | rfl | rfl | rfl | rfl | rfl | rfl
    all_goals
      go_wp2
      go_ret
      exact ⟨rfl, by first | exact bt hB (ba (Below.refl _ _) _) | exact ba hB _⟩
  · have HQ : Hid (daX (k - 32) = dayS m k) := Lib.hid (by unfold dayS; rw [if_neg c0, if_neg c1, if_neg (fun h => g2 h.1)])
    rw [decide_eq_false g2] at t2
    rcases hkk with rfl | rfl | rfl | rfl | rfl | rfl | rfl | rfl
    all_goals
      go_wp2
      go_ret
      exact ⟨rs (by rw [← HQ.out]; rfl), by first | exact bt hB (ba (Below.refl _ _) _) | exact ba hB _⟩
end Bk
end Go.Proofs.YtipjmaimjchckaaGreatDoor

/-! THE WALK of Y.Of: the years that layer 14 makes for its statements. -/
set_option linter.unusedSimpArgs false
set_option linter.unusedVariables false
set_option maxRecDepth 100000
namespace Go.Proofs.YtipjmaimjchckaaGreatDoor
open Go.RowKit Go.Lib
namespace Bk
open Un (ba bt ri rb ret2_ii ret2_bi)

theorem xS_size {s : ByteArray} (a b : Int) (h4 : s.size = 4) : ∀ i, i ≤ 4 → (xS s a b i).size = i
  | 0, _ => rfl
  | i + 1, h => by
    rw [xS_succ, ByteArray.size_append, xS_size a b h4 i (by omega)]
    split
    · rfl
    · rw [ByteArray.size_extract]; omega
theorem extract_all (s : ByteArray) : s.extract 0 s.size = s := by
  apply ba_ext
  simp
def N9 : ByteArray := ⟨#[49, 50, 51, 52, 53, 54, 55, 56, 57]⟩
theorem ext9 : ∀ k : Nat, k < 9 → N9.extract k (k + 1) = ⟨#[dgt (k + 1)]⟩ := by decide
def yl (f : Nat) (neg : Bool) (n z0 z1 : Nat) : List Value := [.int .u8 f, .bool neg, .int .u16 n, .int .u8 z0, .int .u8 z1]
def lstY (neg long : Bool) (s : ByteArray) (ex sig : Int) : List Value := [.bool neg, .bool long, .string s, .int .i64 ex, .int .i64 sig]
def RetY (w : World) (e : Ending) (w' : World) : Prop := ∃ neg long s ex sig, YGood neg long s ex sig ∧ e = .returned (yv neg long s ex sig) ∧ Below w.heap.size w w'
theorem info_year : (Tryz.prog.info? 49).map (·.size) = some 5 := by kernel_rfl
/-- The three blocks of the call. -/
structure Yw (p : Nat) (f : Nat) (neg0 : Bool) (n z0 z1 : Nat) (neg long : Bool) (s : ByteArray) (ex sig : Int) (w W : World) : Prop where
  x : Rw w.heap.size (yl f neg0 n z0 z1) w W
  r : Rw (w.heap.size + 1) (lstY false false ⟨#[]⟩ 0 0) w W
  y : Rw p (lstY neg long s ex sig) w W
  n : w.heap.size + 1 < p
theorem Yw.later {p f : Nat} {neg0 : Bool} {n z0 z1 : Nat} {neg long : Bool} {s : ByteArray} {ex sig : Int} {w W W2 : World} (h : Yw p f neg0 n z0 z1 neg long s ex sig w W) (hb : Below W.heap.size W W2) : Yw p f neg0 n z0 z1 neg long s ex sig w W2 :=
  ⟨h.x.later hb, h.r.later hb, h.y.later hb, h.n⟩
theorem Yw.set {p f : Nat} {neg0 : Bool} {n z0 z1 : Nat} {neg long : Bool} {s : ByteArray} {ex sig : Int} {w W : World} (h : Yw p f neg0 n z0 z1 neg long s ex sig w W) (k : Nat) (hk : k < 5) (v : Value)
    {neg' long' : Bool} {s' : ByteArray} {ex' sig' : Int} (e : (lstY neg long s ex sig).set k v = lstY neg' long' s' ex' sig') : Yw p f neg0 n z0 z1 neg' long' s' ex' sig' w (W.setCell ⟨p, k, none⟩ v) :=
  ⟨h.x.other (by have := h.n; omega) h.y.new k v, h.r.other (by have := h.n; omega) h.y.new k v, by have := h.y.set k hk v; rw [e] at this; exact this, h.n⟩
theorem Yw.cells {p f : Nat} {neg0 : Bool} {n z0 z1 : Nat} {neg long : Bool} {s : ByteArray} {ex sig : Int} {w W : World} (h : Yw p f neg0 n z0 z1 neg long s ex sig w W) :
    W.cell? ⟨w.heap.size, 0, none⟩ = some (.int .u8 f) ∧ W.cell? ⟨w.heap.size, 1, none⟩ = some (.bool neg0) ∧ W.cell? ⟨w.heap.size, 2, none⟩ = some (.int .u16 n) ∧ W.cell? ⟨w.heap.size, 3, none⟩ = some (.int .u8 z0) ∧ W.cell? ⟨w.heap.size, 4, none⟩ = some (.int .u8 z1) ∧
    W.cell? ⟨p, 0, none⟩ = some (.bool neg) ∧ W.cell? ⟨p, 1, none⟩ = some (.bool long) ∧ W.cell? ⟨p, 2, none⟩ = some (.string s) ∧ W.cell? ⟨p, 3, none⟩ = some (.int .i64 ex) ∧ W.cell? ⟨p, 4, none⟩ = some (.int .i64 sig) ∧
    W.frozen? ⟨p, 0, none⟩ = false ∧ W.frozen? ⟨p, 1, none⟩ = false ∧ W.frozen? ⟨p, 2, none⟩ = false ∧ W.frozen? ⟨p, 3, none⟩ = false ∧ W.frozen? ⟨p, 4, none⟩ = false :=
  ⟨h.x.cell 0 _ rfl, h.x.cell 1 _ rfl, h.x.cell 2 _ rfl, h.x.cell 3 _ rfl, h.x.cell 4 _ rfl, h.y.cell 0 _ rfl, h.y.cell 1 _ rfl, h.y.cell 2 _ rfl, h.y.cell 3 _ rfl, h.y.cell 4 _ rfl,
    h.y.free 0 (by unfold lstY; simp), h.y.free 1 (by unfold lstY; simp), h.y.free 2 (by unfold lstY; simp), h.y.free 3 (by unfold lstY; simp), h.y.free 4 (by unfold lstY; simp)⟩

set_option maxHeartbeats 4000000 in
theorem yOf_any (f : Nat) (neg0 : Bool) (n z0 z1 : Nat) (w : World) (hf : f < 256) (hn : n < 65536) (h0 : z0 < 256) (h1 : z1 < 256) :
    Calls Tryz.prog 63 #[.agg (yl f neg0 n z0 z1).toArray] w (RetY w) := by
  have hX : Rw w.heap.size (yl f neg0 n z0 z1) w _ := Rw.fresh (Below.refl _ _) _ 68
  have hX2 := Rw.fresh hX.below (lstY false false ⟨#[]⟩ 0 0) 49
  simp only [alloc_size] at hX2
  have hA : _ ∧ _ := ⟨hX.later (ba (Below.refl _ _) (.cells (lstY false false ⟨#[]⟩ 0 0).toArray 49)), hX2⟩
  clear hX hX2
  have H4 := Lib.hid (fun w => four_any n w hn)
  obtain ⟨m, hm0⟩ : ∃ m, m = n % 10000 := ⟨_, rfl⟩
  have hm : m < 10000 := by omega
  rw [← hm0] at H4
  clear hm0
  obtain ⟨g, hg0⟩ : ∃ g, g = f % 6 := ⟨_, rfl⟩
  have HG := Lib.hid hg0
  clear hg0
  have HM := Lib.hid hm
  clear hm
  have HCK := Lib.hid (fun neg long s ex sig w hs s0 s1 => rYCheck_any neg long s ex sig w hs s0 s1)
  unfold yl lstY at hA
  unfold yl
  go_enter Tryz.func63, Tryz.ntmps63
  go_upto_region 1 with (fail)
  generalize World.alloc _ _ = W0 at hA ⊢
  have HD : Hid (Rw w.heap.size (yl f neg0 n z0 z1) w W0) := Lib.hid hA.1
  have HF : Hid (Rw (w.heap.size + 1) (lstY false false ⟨#[]⟩ 0 0) w W0) := Lib.hid hA.2
  clear hA
  go_cut [3] (fun s3 wx => ∃ p, s3 = .pointer (some ⟨p, 0, none⟩) ∧ Yw p f neg0 n z0 z1 neg0 false (fourS m) 0 0 w wx)
  case first =>
    have c1 := HD.out.cell 1 _ rfl
    have c2 := HD.out.cell 2 _ rfl
    clear HCK HG HM
    have HN : Hid (Rw W0.heap.size (lstY false false ⟨#[]⟩ 0 0) w (W0.alloc (.cells #[.bool false, .bool false, .string ⟨#[]⟩, .int .i64 0, .int .i64 0] 49))) := Lib.hid (Rw.fresh HD.out.below _ _)
    have lt0 := HD.out.lt
    have HLT := Lib.hid HF.out.lt
    go_region_with (go_at_call 93; with_reducible refine (H4.out _).mono ?_; rintro _ w' ⟨rfl, hb⟩; first
      | (replace HD := Lib.hid (HD.out.later (by first | exact hb | exact bt (Below.refl _ _).drew hb | exact bt (Below.refl _ _).drew.drew hb | exact bt (Below.refl _ _).drew.drew.drew hb)); replace HF := Lib.hid (HF.out.later (by first | exact hb | exact bt (Below.refl _ _).drew hb | exact bt (Below.refl _ _).drew.drew hb | exact bt (Below.refl _ _).drew.drew.drew hb)); clear hb c1 c2 lt0 HN; have lt0 := HD.out.lt; have c1 := HD.out.cell 1 _ rfl; have c2 := HD.out.cell 2 _ rfl)
      | (have hb2 : Below (W0.alloc (.cells #[.bool false, .bool false, .string ⟨#[]⟩, .int .i64 0, .int .i64 0] 49)).heap.size (W0.alloc (.cells #[.bool false, .bool false, .string ⟨#[]⟩, .int .i64 0, .int .i64 0] 49)) w' := (by first | exact hb | exact bt (Below.refl _ _).drew hb | exact bt (Below.refl _ _).drew.drew hb)
         replace HN := Lib.hid (HN.out.later hb2)
         replace HD := Lib.hid (HD.out.later (bt (ba (Below.refl _ _) _) hb2)); replace HF := Lib.hid (HF.out.later (bt (ba (Below.refl _ _) _) hb2)); clear hb hb2 c1 c2 lt0; have lt0 := HD.out.lt; have c1 := HD.out.cell 1 _ rfl; have c2 := HD.out.cell 2 _ rfl
         have n0 := HN.out.cell 0 _ rfl; have n1 := HN.out.cell 1 _ rfl; have n2 := HN.out.cell 2 _ rfl; have n3 := HN.out.cell 3 _ rfl; have n4 := HN.out.cell 4 _ rfl
         have f0 := HN.out.free 0 (by unfold lstY; simp); have f1 := HN.out.free 1 (by unfold lstY; simp); have f2 := HN.out.free 2 (by unfold lstY; simp); have f3 := HN.out.free 3 (by unfold lstY; simp); have f4 := HN.out.free 4 (by unfold lstY; simp)))
    all_goals (go_wp2_with fail)
    all_goals go_meet
    all_goals first
      | (have e2 := HN.out.new
         have e1 := HLT.out
         exact ⟨_, rfl, HD.out.others (by omega) e2 (lstY neg0 false (fourS m) 0 0) 0, HF.out.others (by omega) e2 (lstY neg0 false (fourS m) 0 0) 0, HN.out.setAll (lstY neg0 false (fourS m) 0 0) rfl, e1⟩)
      | exact ⟨_, rfl, HD.out.later (ba (Below.refl _ _) _), HF.out.later (ba (Below.refl _ _) _), Rw.fresh HD.out.below (lstY neg0 false (fourS m) 0 0) _, HF.out.lt⟩
  case rest =>
  obtain ⟨p, rfl, hW⟩ := hcut
  clear HD HF H4
  obtain ⟨x0, x1, x2, x3, x4, y0, y1, y2, y3, y4, z0', z1', z2', z3', z4'⟩ := hW.cells
  go_upto_region 2 with (fail)
  go_cut [16] (fun s wx => s = .int .u8 (g : Int) ∧ wc = wx)
  case first =>
    clear HCK HM
    go_wp2
    go_meet
    exact ⟨by rw [HG.out]; go_num, rfl⟩
  case rest =>
  obtain ⟨rfl, rfl⟩ := hcut
  go_upto_block 0 with (fail)
  go_cut [] (fun wx => ∃ neg long s ex sig, YNear neg long s ex sig ∧ Yw p f neg0 n z0 z1 neg long s ex sig w wx)
  case first =>
    clear HCK
    by_cases g3 : g = 3
    · subst g3
      have HW := Lib.hid hW
      clear hW
      go_upto_region 4 with (fail)
      go_cut [4, 5] (fun s4 s5 wx => ∃ a b : Int, s4 = .int .i64 a ∧ s5 = .int .i64 b ∧ 0 ≤ a ∧ a < 4 ∧ 0 ≤ b ∧ b < 4 ∧ Yw p f neg0 n z0 z1 neg0 false (fourS m) 0 0 w wx)
      case first =>
        clear HM
        go_region
        all_goals (go_wp2_with fail)
        all_goals go_meet
        all_goals exact ⟨_, _, rfl, rfl, by omega, by omega, by omega, by omega, HW.out.later (Below.refl _ _).drew⟩
      case rest =>
      obtain ⟨a, b, rfl, rfl, a0, a1, b0, b1, hW⟩ := hcut
      clear HW x0 x1 x2 x3 x4 y0 y1 y2 y3 y4 z0' z1' z2' z3' z4'
      have HM2 := Lib.hid (⟨a0, a1⟩ : _ ∧ _)
      clear b0 b1 a0 a1
      go_upto_block 1 with (fail)
      go_wp2
      go_loopw [6, 7] (fun s6 s7 wr => ∃ i : Nat, i ≤ 4 ∧ s7 = .int .i64 i ∧ s6 = .string (xS (fourS m) a b i) ∧ Yw p f neg0 n z0 z1 neg0 false (fourS m) 0 0 w wr) (fun _ i _ => 4 - (intOf i).toNat)
      case atStart => exact ⟨0, by omega, rfl, rfl, hW⟩
      case round =>
        obtain ⟨i, hi, rfl, rfl, hW⟩ := hrel
        by_cases hlt : i < 4
        · have e4 : (fourS m).size = 4 := rfl
          have eX : (xS (fourS m) a b i).size = i := xS_size a b rfl i (by omega)
          have HNX := Lib.hid (xS_succ (fourS m) a b i)
          obtain ⟨x0, x1, x2, x3, x4, y0, y1, y2, y3, y4, z0', z1', z2', z3', z4'⟩ := hW.cells
          have HW := Lib.hid hW
          clear hW
          generalize xS (fourS m) a b i = X at *
          by_cases ha : (i : Int) = a ∨ (i : Int) = b
          · rw [if_pos ha] at HNX
            have key : ((i : Int) == a) = true ∨ (((i : Int) == a) = false ∧ ((i : Int) == b) = true) := by
              by_cases c : (i : Int) = a
              · exact .inl (by rw [beq_iff_eq]; exact c)
              · exact .inr ⟨by rw [beq_eq_false_iff_ne]; exact c, by rw [beq_iff_eq]; exact ha.resolve_left c⟩
            clear ha
            rcases key with t1 | ⟨t1, t2⟩
            all_goals
              go_wp2
              go_roundw
              case rel => exact ⟨i + 1, by omega, by go_num, by rw [HNX.out], HW.out⟩
              case measure => simp [intOf]; omega
          · rw [if_neg ha] at HNX
            have t1 : ((i : Int) == a) = false := by rw [beq_eq_false_iff_ne]; exact fun c => ha (.inl c)
            have t2 : ((i : Int) == b) = false := by rw [beq_eq_false_iff_ne]; exact fun c => ha (.inr c)
            clear ha
            go_wp2
            go_roundw
            case rel => exact ⟨i + 1, by omega, by go_num, by rw [HNX.out], HW.out⟩
            case measure => simp [intOf]; omega
        · obtain rfl : i = 4 := by omega
          have HQ := Lib.hid (near_x HM.out neg0 (b := b) HM2.out.1 HM2.out.2)
          obtain ⟨x0, x1, x2, x3, x4, y0, y1, y2, y3, y4, z0', z1', z2', z3', z4'⟩ := hW.cells
          have HW := Lib.hid hW
          clear hW HM
          go_wp2
          go_meet
          exact ⟨_, _, _, _, _, HQ.out, HW.out.set 2 (by omega) _ rfl⟩
    by_cases g4 : g = 4
    · subst g4
      have HW := Lib.hid hW
      clear hW
      have hm := HM.out
      have HQ := Lib.hid (near_plain hm neg0 (sig := 1 + (z0 : Int) % 4) (by omega) (by omega))
      clear hm HM
      go_wp2
      go_meet
      exact ⟨_, _, _, _, _, HQ.out, HW.out.set 4 (by omega) _ rfl⟩
    by_cases g5 : g = 5
    · subst g5
      have HW := Lib.hid hW
      clear hW
      go_upto_region 17 with (fail)
      go_cut [] (fun wx => Yw p f neg0 n z0 z1 neg0 true (longS m z0) 0 0 w wx)
      case first =>
        have e4 : (fourS m).size = 4 := fourS_size m
        have HN : Hid (N9.extract (z0 % 9) (z0 % 9 + 1) ++ fourS m = longS m z0) := Lib.hid (by rw [ext9 _ (by omega)]; rfl)
        unfold N9 at HN
        clear HM
        generalize fourS m = s4 at *
        go_region
        all_goals (go_wp2_with fail)
        all_goals go_meet
        all_goals
          have h1 := HW.out.set 1 (by omega) (.bool true) (neg' := neg0) (long' := true) (s' := s4) (ex' := 0) (sig' := 0) rfl
          rw [HN.out]
          exact (h1.set 2 (by omega) (.string (longS m z0)) rfl).later (Below.refl _ _).drew
      case rest =>
      have hW := hcut
      clear HW x0 x1 x2 x3 x4 y0 y1 y2 y3 y4 z0' z1' z2' z3' z4'
      obtain ⟨x0, x1, x2, x3, x4, y0, y1, y2, y3, y4, z0', z1', z2', z3', z4'⟩ := hW.cells
      obtain ⟨S, hS⟩ : ∃ S, S = longS m z0 := ⟨_, rfl⟩
      have e5 : S.size = 5 := by rw [hS]; rfl
      have HS := Lib.hid hS
      have HW := Lib.hid hW
      rw [← hS] at HW y2
      clear hW hS
      obtain ⟨b3, hb3⟩ : ∃ b, decide (0 < (z1 : Int) % 3) = b := ⟨_, rfl⟩
      go_upto_if 83 with (fail)
      clear hb3
      go_cut [] (fun wx => ∃ (t : ByteArray) (k : Nat) (ex : Int), t = S.extract 0 k ∧ t.size = k ∧ 1 ≤ k ∧ k ≤ 5 ∧ 0 ≤ ex ∧ ex ≤ 11 ∧ (ex = 0 → k = 5) ∧ Yw p f neg0 n z0 z1 neg0 true t ex 0 w wx)
      case first =>
        clear HM
        cases b3
        case true =>
          obtain ⟨k, hk0⟩ : ∃ k, k = 1 + z1 % 5 := ⟨_, rfl⟩
          have hwr : IntKind.u8.wrap (1 + (z1 : Int) % 5) = (k : Int) := by rw [IntKind.wrap_u8]; omega
          have k0 : 1 ≤ k := by omega
          have k1 : k ≤ 5 := by omega
          clear hk0
          have HK := Lib.hid (⟨k0, k1⟩ : _ ∧ _)
          have HT : Hid ((S.extract 0 k).size = k) := Lib.hid (by rw [ByteArray.size_extract]; omega)
          go_wp2
          go_meet
          have h1 : Yw p f neg0 n z0 z1 neg0 true (S.extract 0 k) 0 0 w _ := HW.out.set 2 (by omega) (.string (S.extract 0 k)) rfl
          exact ⟨S.extract 0 k, k, 1 + (z1 : Int) / 16 % 11, rfl, HT.out, HK.out.1, HK.out.2, by omega, by omega, fun h => by omega, h1.set 3 (by omega) _ rfl⟩
        case false =>
          have HT : Hid (S = S.extract 0 5) := Lib.hid (by rw [← e5]; exact (extract_all S).symm)
          go_wp2
          go_meet
          exact ⟨S, 5, 0, HT.out, e5, by omega, by omega, by omega, by omega, fun _ => rfl, HW.out⟩
      case rest =>
      obtain ⟨t, k, ex, ht, hk, k0, k1, e0, e1, hz, hW⟩ := hcut
      clear HW x0 x1 x2 x3 x4 y0 y1 y2 y3 y4 z0' z1' z2' z3' z4'
      obtain ⟨x0, x1, x2, x3, x4, y0, y1, y2, y3, y4, z0', z1', z2', z3', z4'⟩ := hW.cells
      have HW := Lib.hid hW
      clear hW
      have ht4 : t.size = k := hk
      have m0 : 0 ≤ (z0 : Int) / 16 % ((k : Int) + ex + 1) := Int.emod_nonneg _ (by omega)
      have m1 : (z0 : Int) / 16 % ((k : Int) + ex + 1) < (k : Int) + ex + 1 := Int.emod_lt_of_pos _ (by omega)
      have HQ := Lib.hid (near_long neg0 (sig := (z0 : Int) / 16 % ((k : Int) + ex + 1)) HM.out HS.out ht k0 k1 e0 e1 hz m0 (by omega))
      clear HM HS ht hz
      go_wp2
      go_meet
      exact ⟨_, _, _, _, _, HQ.out, HW.out.set 4 (by omega) _ rfl⟩
    have hm := HM.out
    have HQ := Lib.hid (near_plain hm neg0 (sig := 0) (by omega) (by omega))
    have HW := Lib.hid hW
    clear hW hm HM x0 x1 x2 x3 x4 y0 y1 y2 y3 y4 z0' z1' z2' z3' z4'
    go_wp2
    go_meet
    exact ⟨_, _, _, _, _, HQ.out, HW.out⟩
  case rest =>
  obtain ⟨neg, long, s, ex, sig, hQ, hW⟩ := hcut
  obtain ⟨x0, x1, x2, x3, x4, y0, y1, y2, y3, y4, z0', z1', z2', z3', z4'⟩ := hW.cells
  have HW := Lib.hid hW
  clear hW
  rcases hQ with hq | ⟨hn, hq⟩
  · have HCK2 : Hid (∀ w, Calls Tryz.prog 94 #[.agg (lstY neg long s ex sig).toArray] w fun r w' => r = .returned (.int .i64 1) ∧ Below w.heap.size w w') := Lib.hid (fun w => by
      have := HCK.out neg long s ex sig w (by have := hq.2.2.2.2.2.2; omega) (by have := hq.2.2.1; omega) (by have := hq.2.2.2.1; omega)
      rw [hq.1, if_pos rfl] at this
      exact this)
    have HQ := Lib.hid hq
    clear HCK hq HG HM
    unfold lstY at HCK2
    go_upto_region 24 with (go_at_call 94; with_reducible refine (HCK2.out _).mono ?_; rintro _ w' ⟨rfl, hb⟩; replace HW := Lib.hid (HW.out.later hb); clear hb x0 x1 x2 x3 x4 y0 y1 y2 y3 y4 z0' z1' z2' z3' z4')
    obtain ⟨x0, x1, x2, x3, x4, y0, y1, y2, y3, y4, z0', z1', z2', z3', z4'⟩ := HW.out.cells
    have r0 := HW.out.r.cell 0 _ rfl; have r1 := HW.out.r.cell 1 _ rfl; have r2 := HW.out.r.cell 2 _ rfl; have r3 := HW.out.r.cell 3 _ rfl; have r4 := HW.out.r.cell 4 _ rfl
    have s0 := HW.out.r.free 0 (by unfold lstY; simp); have s1 := HW.out.r.free 1 (by unfold lstY; simp); have s2 := HW.out.r.free 2 (by unfold lstY; simp); have s3 := HW.out.r.free 3 (by unfold lstY; simp); have s4 := HW.out.r.free 4 (by unfold lstY; simp)
    go_wp2
    have hY := HW.out.r.setAll (lstY neg long s ex sig) rfl
    exact bodyPost_ret (v := yv neg long s ex sig) (results_lone Tryz.results63 _ rfl (run_loadVar_mid _ _ 0 49 (lstY neg long s ex sig) _ hY.range Tryz.underlying49 rfl info_year)) rfl ⟨_, _, _, _, _, HQ.out, rfl, hY.below⟩
  · have HCK2 : Hid (∀ w, Calls Tryz.prog 94 #[.agg (lstY neg long s ex sig).toArray] w fun r w' => r = .returned (.int .i64 0) ∧ Below w.heap.size w w') := Lib.hid (fun w => by
      have := HCK.out neg long s ex sig w (by have := hq.2.2.2.2.2.2; omega) (by have := hq.2.2.1; omega) (by have := hq.2.2.2.1; omega)
      rw [hn, if_neg (by decide)] at this
      exact this)
    have HQ := Lib.hid hq
    clear HCK hq hn HG HM
    unfold lstY at HCK2
    go_upto_region 23 with (go_at_call 94; with_reducible refine (HCK2.out _).mono ?_; rintro _ w' ⟨rfl, hb⟩; replace HW := Lib.hid (HW.out.later hb); clear hb x0 x1 x2 x3 x4 y0 y1 y2 y3 y4 z0' z1' z2' z3' z4')
    obtain ⟨x0, x1, x2, x3, x4, y0, y1, y2, y3, y4, z0', z1', z2', z3', z4'⟩ := HW.out.cells
    go_upto_region 24 with (fail)
    have hN : Yw p f neg0 n z0 z1 false long s ex sig w _ := HW.out.set 0 (by omega) (.bool false) rfl
    clear HW x0 x1 x2 x3 x4 y0 y1 y2 y3 y4 z0' z1' z2' z3' z4'
    generalize World.setCell _ _ _ = W9 at hN ⊢
    have HW := Lib.hid hN
    clear hN
    obtain ⟨x0, x1, x2, x3, x4, y0, y1, y2, y3, y4, z0', z1', z2', z3', z4'⟩ := HW.out.cells
    have r0 := HW.out.r.cell 0 _ rfl; have r1 := HW.out.r.cell 1 _ rfl; have r2 := HW.out.r.cell 2 _ rfl; have r3 := HW.out.r.cell 3 _ rfl; have r4 := HW.out.r.cell 4 _ rfl
    have s0 := HW.out.r.free 0 (by unfold lstY; simp); have s1 := HW.out.r.free 1 (by unfold lstY; simp); have s2 := HW.out.r.free 2 (by unfold lstY; simp); have s3 := HW.out.r.free 3 (by unfold lstY; simp); have s4 := HW.out.r.free 4 (by unfold lstY; simp)
    go_wp2
    have hY := HW.out.r.setAll (lstY false long s ex sig) rfl
    exact bodyPost_ret (v := yv false long s ex sig) (results_lone Tryz.results63 _ rfl (run_loadVar_mid _ _ 0 49 (lstY false long s ex sig) _ hY.range Tryz.underlying49 rfl info_year)) rfl ⟨_, _, _, _, _, HQ.out, rfl, hY.below⟩
end Bk
end Go.Proofs.YtipjmaimjchckaaGreatDoor

/-! THE WALK of D.Of: the dates that layer 15 makes for its statements. -/
set_option linter.unusedSimpArgs false
set_option linter.unusedVariables false
set_option maxRecDepth 100000
namespace Go.Proofs.YtipjmaimjchckaaGreatDoor
open Go.RowKit Go.Lib
namespace Bk
open Un (ba bt ri rb ret2_ii ret2_bi)

def RetD (w : World) (e : Ending) (w' : World) : Prop := ∃ d : Dt, d.err = 0 ∧ (∃ y m k, d.Fill y m k) ∧ d.dg.size ≤ 5 ∧ d.mo.size ≤ 2 ∧ d.da.size ≤ 2 ∧ 0 ≤ d.sig ∧ d.sig ≤ 100 ∧ 0 ≤ d.m0 ∧ 0 ≤ d.m1 ∧ 0 ≤ d.m2 ∧ e = .returned (dtv d) ∧ Below w.heap.size w w'
def zD : Dt := ⟨false, false, ⟨#[]⟩, 0, 0, ⟨#[]⟩, ⟨#[]⟩, 0, 0, 0⟩
/-- The three blocks of the call. -/
structure Dw (p : Nat) (xs : List Value) (d : Dt) (w W : World) : Prop where
  x : Rw w.heap.size xs w W
  r : Rw (w.heap.size + 1) (lstD zD) w W
  y : Rw p (lstD d) w W
  n : w.heap.size + 1 < p
theorem Dw.later {p : Nat} {xs : List Value} {d : Dt} {w W W2 : World} (h : Dw p xs d w W) (hb : Below W.heap.size W W2) : Dw p xs d w W2 :=
  ⟨h.x.later hb, h.r.later hb, h.y.later hb, h.n⟩
theorem Dw.set {p : Nat} {xs : List Value} {d : Dt} {w W : World} (h : Dw p xs d w W) (k : Nat) (hk : k < 10) (v : Value) {d' : Dt} (e : (lstD d).set k v = lstD d') : Dw p xs d' w (W.setCell ⟨p, k, none⟩ v) :=
  ⟨h.x.other (by have := h.n; omega) h.y.new k v, h.r.other (by have := h.n; omega) h.y.new k v, by have := h.y.set k hk v; rw [e] at this; exact this, h.n⟩
/-- The date without its marks. -/
def dOf (neg long : Bool) (s : ByteArray) (ex sig : Int) (mo da : ByteArray) : Dt := ⟨neg, long, s, ex, sig, mo, da, 0, 0, 0⟩

set_option maxHeartbeats 4000000 in
theorem dOf_any (f : Nat) (neg0 : Bool) (n z0 z1 mo da k0 k1 k2 : Nat) (w : World) (hf : f < 256) (hn : n < 65536) (h0 : z0 < 256) (h1 : z1 < 256) (h2 : mo < 256) (h3 : da < 256) (h4 : k0 < 256) (h5 : k1 < 256) (h6 : k2 < 256) :
    Calls Tryz.prog 34 #[.agg (ddl f neg0 n z0 z1 mo da k0 k1 k2).toArray] w (RetD w) := by
  have hX : Rw w.heap.size (ddl f neg0 n z0 z1 mo da k0 k1 k2) w _ := Rw.fresh (Below.refl _ _) _ 70
  have hX2 := Rw.fresh hX.below (lstD zD) 52
  simp only [alloc_size] at hX2
  have hA : _ ∧ _ := ⟨hX.later (ba (Below.refl _ _) (.cells (lstD zD).toArray 52)), hX2⟩
  clear hX hX2
  have HY := Lib.hid (fun w => yOf_any f neg0 n z0 z1 w hf hn h0 h1)
  have HM := Lib.hid (fun w => month_any f neg0 n z0 z1 mo da k0 k1 k2 w h2)
  have HDY := Lib.hid (fun m w hm hz hs => day_any f neg0 n z0 z1 mo da k0 k1 k2 m w h3 hm hz hs)
  have HSE := Lib.hid (fun d w => rSeason_any d w)
  have HCO := Lib.hid (fun d w => rComps_any d w)
  have HK := Lib.hid (⟨h4, h5, h6⟩ : _ ∧ _ ∧ _)
  obtain ⟨m, hm0⟩ : ∃ m, m = mo % 40 := ⟨_, rfl⟩
  obtain ⟨k, hk0⟩ : ∃ k, k = da % 40 := ⟨_, rfl⟩
  have hm : m < 40 := by omega
  have hk : k < 40 := by omega
  rw [← hm0] at HM
  rw [← hk0] at HDY
  clear hm0 hk0 hf hn h0 h1 h2 h3 h4 h5 h6
  unfold lstD zD at hA
  unfold yl at HY
  unfold ddl at hA HM HDY
  unfold ddl
  go_enter Tryz.func34, Tryz.ntmps34
  go_upto_region 1 with (fail)
  generalize World.alloc _ _ = W0 at hA ⊢
  have HD : Hid (Rw w.heap.size (ddl f neg0 n z0 z1 mo da k0 k1 k2) w W0) := Lib.hid hA.1
  have HF : Hid (Rw (w.heap.size + 1) (lstD zD) w W0) := Lib.hid hA.2
  clear hA
  go_cut [3] (fun s3 wx => ∃ p neg long s ex sig, s3 = .pointer (some ⟨p, 0, none⟩) ∧ YGood neg long s ex sig ∧ Dw p (ddl f neg0 n z0 z1 mo da k0 k1 k2) (dOf neg long s ex sig ⟨#[]⟩ ⟨#[]⟩) w wx)
  case first =>
    have c0 := HD.out.cell 0 _ rfl; have c1 := HD.out.cell 1 _ rfl; have c2 := HD.out.cell 2 _ rfl; have c3 := HD.out.cell 3 _ rfl; have c4 := HD.out.cell 4 _ rfl
    clear HM HDY HSE HCO
    go_wp2_with (go_at_call 63; refine (HY.out _).mono ?_; rintro _ w1 ⟨neg, long, s, ex, sig, hg, rfl, hb⟩; unfold yv)
    go_meet
    exact ⟨_, _, _, _, _, _, rfl, hg, (HD.out.later hb).later (ba (Below.refl _ _) _), (HF.out.later hb).later (ba (Below.refl _ _) _), Rw.fresh (bt HD.out.below hb) (lstD (dOf neg long s ex sig ⟨#[]⟩ ⟨#[]⟩)) _, (HF.out.later hb).lt⟩
  case rest =>
  obtain ⟨p, neg, long, s, ex, sig, rfl, hg, hW⟩ := hcut
  have HG := Lib.hid hg
  clear HD HF HY hg
  obtain ⟨bs, hbs⟩ : ∃ b, (sig == 0) = b := ⟨_, rfl⟩
  have HBS : Hid ((bs = true ∧ sig = 0) ∨ (bs = false ∧ sig ≠ 0)) := Lib.hid (by
    cases hb : bs
    · rw [hb] at hbs; exact .inr ⟨rfl, by simpa using hbs⟩
    · rw [hb] at hbs; exact .inl ⟨rfl, by simpa using hbs⟩)
  have q4 : World.cell? _ ⟨p, 4, none⟩ = some (.int .i64 sig) := hW.y.dcells.2.2.2.2.1
  go_upto_if 12 with (fail)
  clear hbs q4
  go_cut [] (fun wx => ∃ mo' : ByteArray, ((sig = 0 ∧ mo' = monS m) ∨ (sig ≠ 0 ∧ mo' = ⟨#[]⟩)) ∧ Dw p (ddl f neg0 n z0 z1 mo da k0 k1 k2) (dOf neg long s ex sig mo' ⟨#[]⟩) w wx)
  case first =>
    clear HDY HSE HCO
    rcases HBS.out with ⟨rfl, e⟩ | ⟨rfl, e⟩
    · have HE := Lib.hid e
      clear e HBS
      have c0 := hW.x.cell 0 _ rfl; have c1 := hW.x.cell 1 _ rfl; have c2 := hW.x.cell 2 _ rfl; have c3 := hW.x.cell 3 _ rfl; have c4 := hW.x.cell 4 _ rfl; have c5 := hW.x.cell 5 _ rfl; have c6 := hW.x.cell 6 _ rfl; have c7 := hW.x.cell 7 _ rfl; have c8 := hW.x.cell 8 _ rfl; have c9 := hW.x.cell 9 _ rfl
      have HW := Lib.hid hW
      clear hW
      go_upto_region 3 with (fail)
      go_wp2_with (go_at_call 64; refine (HM.out _).mono ?_; rintro _ w2 ⟨rfl, hb⟩; replace HW := Lib.hid (HW.out.later hb); clear hb c0 c1 c2 c3 c4 c5 c6 c7 c8 c9; have d5 := HW.out.y.cell 5 _ rfl; have z5 := HW.out.y.free 5 (by unfold lstD; simp))
      go_meet
      exact ⟨_, .inl ⟨HE.out, rfl⟩, HW.out.set 5 (by omega) (.string (monS m)) rfl⟩
    · go_wp2
      go_meet
      exact ⟨_, .inr ⟨e, rfl⟩, hW⟩
  case rest =>
  obtain ⟨mo', hmo, hW⟩ := hcut
  have HMO := Lib.hid hmo
  clear HBS HM hmo
  go_upto_region 4 with (fail)
  go_cut [23] (fun s23 wx => ∃ b : Bool, s23 = .bool b ∧ (b = true ↔ (mo'.size ≠ 0 ∧ seasonC mo' = 0)) ∧ Dw p (ddl f neg0 n z0 z1 mo da k0 k1 k2) (dOf neg long s ex sig mo' ⟨#[]⟩) w wx)
  case first =>
    clear HDY HMO HCO
    have q0 : World.cell? _ ⟨p, 0, none⟩ = some (.bool neg) := hW.y.cell 0 _ rfl; have q1 : World.cell? _ ⟨p, 1, none⟩ = some (.bool long) := hW.y.cell 1 _ rfl; have q2 : World.cell? _ ⟨p, 2, none⟩ = some (.string s) := hW.y.cell 2 _ rfl; have q3 : World.cell? _ ⟨p, 3, none⟩ = some (.int .i64 ex) := hW.y.cell 3 _ rfl; have q4 : World.cell? _ ⟨p, 4, none⟩ = some (.int .i64 sig) := hW.y.cell 4 _ rfl; have q5 : World.cell? _ ⟨p, 5, none⟩ = some (.string mo') := hW.y.cell 5 _ rfl; have q6 : World.cell? _ ⟨p, 6, none⟩ = some (.string ⟨#[]⟩) := hW.y.cell 6 _ rfl; have q7 : World.cell? _ ⟨p, 7, none⟩ = some (.int .u8 0) := hW.y.cell 7 _ rfl; have q8 : World.cell? _ ⟨p, 8, none⟩ = some (.int .u8 0) := hW.y.cell 8 _ rfl; have q9 : World.cell? _ ⟨p, 9, none⟩ = some (.int .u8 0) := hW.y.cell 9 _ rfl
    have HW := Lib.hid hW
    clear hW
    rcases emp_cases mo' with ⟨e0, x0⟩ | ⟨e0, x0⟩
    · clear HSE
      go_wp2
      go_meet
      exact ⟨false, rfl, ⟨fun h => (by cases h), fun h => absurd e0 h.1⟩, HW.out⟩
    · have HSE2 : Hid (∀ w, Calls Tryz.prog 65 #[.agg #[.bool neg, .bool long, .string s, .int .i64 ex, .int .i64 sig, .string mo', .string ⟨#[]⟩, .int .u8 0, .int .u8 0, .int .u8 0]] w fun r w' => r = .returned (.int .i64 (seasonC mo')) ∧ Below w.heap.size w w') := Lib.hid (fun w => HSE.out (dOf neg long s ex sig mo' ⟨#[]⟩) w)
      have HE := Lib.hid e0
      clear HSE e0
      by_cases e : seasonC mo' = 0
      · rw [e] at HSE2
        have HE2 := Lib.hid e
        clear e
        go_wp2_with (go_at_call 65; refine (HSE2.out _).mono ?_; rintro _ w2 ⟨rfl, hb⟩; replace HW := Lib.hid (HW.out.later hb); clear hb)
        go_meet
        exact ⟨true, rfl, ⟨fun _ => ⟨HE.out, HE2.out⟩, fun _ => rfl⟩, HW.out⟩
      · have HE2 := Lib.hid e
        have t1 : (seasonC mo' == 0) = false := by rw [beq_eq_false_iff_ne]; exact e
        clear e
        go_wp2_with (go_at_call 65; refine (HSE2.out _).mono ?_; rintro _ w2 ⟨rfl, hb⟩; replace HW := Lib.hid (HW.out.later hb); clear hb)
        go_meet
        exact ⟨false, rfl, ⟨fun h => (by cases h), fun h => absurd h.2 HE2.out⟩, HW.out⟩
  case rest =>
  obtain ⟨b, rfl, hb, hW⟩ := hcut
  have HB := Lib.hid hb
  clear hb
  go_upto_if 23 with (fail)
  go_cut [] (fun wx => ∃ da' : ByteArray, (da'.size = 0 ∨ (mo' = monS m ∧ m ≠ 0 ∧ k ≠ 0 ∧ seasonC mo' = 0 ∧ da' = dayS m k)) ∧ Dw p (ddl f neg0 n z0 z1 mo da k0 k1 k2) (dOf neg long s ex sig mo' da') w wx)
  case first =>
    clear HSE HCO
    cases b
    case false =>
      go_wp2
      go_meet
      exact ⟨_, .inl rfl, hW⟩
    case true =>
      obtain ⟨h1, h2⟩ := HB.out.1 rfl
      obtain ⟨hs0, rfl⟩ : sig = 0 ∧ mo' = monS m := by
        rcases HMO.out with h | ⟨_, h⟩
        · exact h
        · exfalso; apply h1; rw [h]; rfl
      have hm0 : m ≠ 0 := fun e => h1 (by rw [e]; rfl)
      have HDY2 := Lib.hid (fun w => HDY.out m w hm hm0 h2)
      have HQ : Hid ((dayS m k).size = 0 ∨ (m ≠ 0 ∧ k ≠ 0 ∧ seasonC (monS m) = 0)) := Lib.hid (by
        by_cases e : k = 0
        · left; rw [e]; rfl
        · exact .inr ⟨hm0, e, h2⟩)
      clear HDY hm0 h1 h2 hs0 HMO HB
      generalize monS m = M at *
      generalize dayS m k = K at *
      have c0 := hW.x.cell 0 _ rfl; have c1 := hW.x.cell 1 _ rfl; have c2 := hW.x.cell 2 _ rfl; have c3 := hW.x.cell 3 _ rfl; have c4 := hW.x.cell 4 _ rfl; have c5 := hW.x.cell 5 _ rfl; have c6 := hW.x.cell 6 _ rfl; have c7 := hW.x.cell 7 _ rfl; have c8 := hW.x.cell 8 _ rfl; have c9 := hW.x.cell 9 _ rfl
      have q0 : World.cell? _ ⟨p, 0, none⟩ = some (.bool neg) := hW.y.cell 0 _ rfl; have q1 : World.cell? _ ⟨p, 1, none⟩ = some (.bool long) := hW.y.cell 1 _ rfl; have q2 : World.cell? _ ⟨p, 2, none⟩ = some (.string s) := hW.y.cell 2 _ rfl; have q3 : World.cell? _ ⟨p, 3, none⟩ = some (.int .i64 ex) := hW.y.cell 3 _ rfl; have q4 : World.cell? _ ⟨p, 4, none⟩ = some (.int .i64 sig) := hW.y.cell 4 _ rfl; have q5 : World.cell? _ ⟨p, 5, none⟩ = some (.string M) := hW.y.cell 5 _ rfl; have q6 : World.cell? _ ⟨p, 6, none⟩ = some (.string ⟨#[]⟩) := hW.y.cell 6 _ rfl; have q7 : World.cell? _ ⟨p, 7, none⟩ = some (.int .u8 0) := hW.y.cell 7 _ rfl; have q8 : World.cell? _ ⟨p, 8, none⟩ = some (.int .u8 0) := hW.y.cell 8 _ rfl; have q9 : World.cell? _ ⟨p, 9, none⟩ = some (.int .u8 0) := hW.y.cell 9 _ rfl
      have HW := Lib.hid hW
      clear hW
      go_upto_region 5 with (fail)
      go_wp2_with (go_at_call 66; refine (HDY2.out _).mono ?_; rintro _ w2 ⟨rfl, hb⟩; replace HW := Lib.hid (HW.out.later hb); clear hb c0 c1 c2 c3 c4 c5 c6 c7 c8 c9 q0 q1 q2 q3 q4 q5 q6 q7 q8 q9; have d5 := HW.out.y.cell 6 _ rfl; have z5 := HW.out.y.free 6 (by unfold lstD; simp))
      go_meet
      exact ⟨K, HQ.out.imp id fun h => ⟨by first | rfl | trivial, h.1, h.2.1, h.2.2, by first | rfl | trivial⟩, HW.out.set 6 (by omega) (.string K) rfl⟩
  case rest =>
  obtain ⟨da', hda, hW⟩ := hcut
  have HDA := Lib.hid hda
  clear hda HDY HSE HB
  have HC2 : Hid (∀ (a0 a1 a2 : Int) w, Calls Tryz.prog 67 #[.agg #[.bool neg, .bool long, .string s, .int .i64 ex, .int .i64 sig, .string mo', .string da', .int .u8 a0, .int .u8 a1, .int .u8 a2]] w fun r w' => r = .returned (.int .i64 (comps mo' da')) ∧ Below w.heap.size w w') := Lib.hid (fun a0 a1 a2 w => HCO.out ⟨neg, long, s, ex, sig, mo', da', a0, a1, a2⟩ w)
  clear HCO
  obtain ⟨N, hN⟩ : ∃ N : Nat, comps mo' da' = N := ⟨(comps mo' da').toNat, by unfold comps; (repeat' split) <;> omega⟩
  have hN1 : 1 ≤ N ∧ N ≤ 3 := by unfold comps at hN; (repeat' split at hN) <;> omega
  rw [hN] at HC2
  have HN := Lib.hid hN
  clear hN
  obtain ⟨hN1, hN3⟩ := hN1
  go_wp2
  go_loopw [4] (fun s4 wr => ∃ i : Nat, i ≤ N ∧ s4 = .int .i64 i ∧ ∃ a0 a1 a2 : Int, 0 ≤ a0 ∧ a0 ≤ 3 ∧ 0 ≤ a1 ∧ a1 ≤ 3 ∧ 0 ≤ a2 ∧ a2 ≤ 3 ∧ (i ≤ 0 → a0 = 0) ∧ (i ≤ 1 → a1 = 0) ∧ (i ≤ 2 → a2 = 0) ∧ Dw p (ddl f neg0 n z0 z1 mo da k0 k1 k2) ⟨neg, long, s, ex, sig, mo', da', a0, a1, a2⟩ w wr) (fun i _ => 4 - (intOf i).toNat)
  case atStart => exact ⟨0, by omega, rfl, 0, 0, 0, by omega, by omega, by omega, by omega, by omega, by omega, fun _ => rfl, fun _ => rfl, fun _ => rfl, hW⟩
  case round =>
    obtain ⟨i, hi, rfl, a0, a1, a2, b0, b1, b2, b3, b4, b5, g0, g1, g2, hW⟩ := hrel
    have HA := Lib.hid (⟨b0, b1, b2, b3, b4, b5, g0, g1, g2⟩ : _ ∧ _ ∧ _ ∧ _ ∧ _ ∧ _ ∧ _ ∧ _ ∧ _)
    clear b0 b1 b2 b3 b4 b5 g0 g1 g2
    have q0 : World.cell? _ ⟨p, 0, none⟩ = some (.bool neg) := hW.y.cell 0 _ rfl; have q1 : World.cell? _ ⟨p, 1, none⟩ = some (.bool long) := hW.y.cell 1 _ rfl; have q2 : World.cell? _ ⟨p, 2, none⟩ = some (.string s) := hW.y.cell 2 _ rfl; have q3 : World.cell? _ ⟨p, 3, none⟩ = some (.int .i64 ex) := hW.y.cell 3 _ rfl; have q4 : World.cell? _ ⟨p, 4, none⟩ = some (.int .i64 sig) := hW.y.cell 4 _ rfl; have q5 : World.cell? _ ⟨p, 5, none⟩ = some (.string mo') := hW.y.cell 5 _ rfl; have q6 : World.cell? _ ⟨p, 6, none⟩ = some (.string da') := hW.y.cell 6 _ rfl; have q7 : World.cell? _ ⟨p, 7, none⟩ = some (.int .u8 a0) := hW.y.cell 7 _ rfl; have q8 : World.cell? _ ⟨p, 8, none⟩ = some (.int .u8 a1) := hW.y.cell 8 _ rfl; have q9 : World.cell? _ ⟨p, 9, none⟩ = some (.int .u8 a2) := hW.y.cell 9 _ rfl
    have c0 := hW.x.cell 0 _ rfl; have c1 := hW.x.cell 1 _ rfl; have c2 := hW.x.cell 2 _ rfl; have c3 := hW.x.cell 3 _ rfl; have c4 := hW.x.cell 4 _ rfl; have c5 := hW.x.cell 5 _ rfl; have c6 := hW.x.cell 6 _ rfl; have c7 := hW.x.cell 7 _ rfl; have c8 := hW.x.cell 8 _ rfl; have c9 := hW.x.cell 9 _ rfl
    have HW := Lib.hid hW
    clear hW
    by_cases hlt : i < N
    · have hi3 : i = 0 ∨ i = 1 ∨ i = 2 := by omega
      obtain ⟨u0, u1, u2⟩ := HK.out
      rcases hi3 with rfl | rfl | rfl
      · go_wp2_with (go_at_call 67; refine (HC2.out _ _ _ _).mono ?_; rintro _ w2 ⟨rfl, hb⟩; replace HW := Lib.hid (HW.out.later hb); clear hb c0 c1 c2 c3 c4 c5 c6 c7 c8 c9 q0 q1 q2 q3 q4 q5 q6 q7 q8 q9; have c7 := HW.out.x.cell 7 _ rfl; have c8 := HW.out.x.cell 8 _ rfl; have c9 := HW.out.x.cell 9 _ rfl; have q7 := HW.out.y.cell 7 _ rfl; have q8 := HW.out.y.cell 8 _ rfl; have q9 := HW.out.y.cell 9 _ rfl; have z7 := HW.out.y.free 7 (by unfold lstD; simp); have z8 := HW.out.y.free 8 (by unfold lstD; simp); have z9 := HW.out.y.free 9 (by unfold lstD; simp))
        go_roundw
        case rel =>
          obtain ⟨b0, b1, b2, b3, b4, b5, g0, g1, g2⟩ := HA.out
          exact ⟨1, by omega, rfl, (k0 : Int) % 4, a1, a2, by omega, by omega, b2, b3, b4, b5, fun h => absurd h (by omega), fun _ => g1 (by omega), fun _ => g2 (by omega), HW.out.set 7 (by omega) _ rfl⟩
        case measure => simp [intOf]
      · go_wp2_with (go_at_call 67; refine (HC2.out _ _ _ _).mono ?_; rintro _ w2 ⟨rfl, hb⟩; replace HW := Lib.hid (HW.out.later hb); clear hb c0 c1 c2 c3 c4 c5 c6 c7 c8 c9 q0 q1 q2 q3 q4 q5 q6 q7 q8 q9; have c7 := HW.out.x.cell 7 _ rfl; have c8 := HW.out.x.cell 8 _ rfl; have c9 := HW.out.x.cell 9 _ rfl; have q7 := HW.out.y.cell 7 _ rfl; have q8 := HW.out.y.cell 8 _ rfl; have q9 := HW.out.y.cell 9 _ rfl; have z7 := HW.out.y.free 7 (by unfold lstD; simp); have z8 := HW.out.y.free 8 (by unfold lstD; simp); have z9 := HW.out.y.free 9 (by unfold lstD; simp))
        go_roundw
        case rel =>
          obtain ⟨b0, b1, b2, b3, b4, b5, g0, g1, g2⟩ := HA.out
          exact ⟨2, by omega, rfl, a0, (k1 : Int) % 4, a2, b0, b1, by omega, by omega, b4, b5, fun h => absurd h (by omega), fun h => absurd h (by omega), fun _ => g2 (by omega), HW.out.set 8 (by omega) _ rfl⟩
        case measure => simp [intOf]
      · go_wp2_with (go_at_call 67; refine (HC2.out _ _ _ _).mono ?_; rintro _ w2 ⟨rfl, hb⟩; replace HW := Lib.hid (HW.out.later hb); clear hb c0 c1 c2 c3 c4 c5 c6 c7 c8 c9 q0 q1 q2 q3 q4 q5 q6 q7 q8 q9; have c7 := HW.out.x.cell 7 _ rfl; have c8 := HW.out.x.cell 8 _ rfl; have c9 := HW.out.x.cell 9 _ rfl; have q7 := HW.out.y.cell 7 _ rfl; have q8 := HW.out.y.cell 8 _ rfl; have q9 := HW.out.y.cell 9 _ rfl; have z7 := HW.out.y.free 7 (by unfold lstD; simp); have z8 := HW.out.y.free 8 (by unfold lstD; simp); have z9 := HW.out.y.free 9 (by unfold lstD; simp))
        go_roundw
        case rel =>
          obtain ⟨b0, b1, b2, b3, b4, b5, g0, g1, g2⟩ := HA.out
          exact ⟨3, by omega, rfl, a0, a1, (k2 : Int) % 4, b0, b1, b2, b3, by omega, by omega, fun h => absurd h (by omega), fun h => absurd h (by omega), fun h => absurd h (by omega), HW.out.set 9 (by omega) _ rfl⟩
        case measure => simp [intOf]
    · obtain rfl : i = N := by omega
      have HR : Hid (∀ d : Dt, d = ⟨neg, long, s, ex, sig, mo', da', a0, a1, a2⟩ → d.err = 0 ∧ (∃ y m k, d.Fill y m k) ∧ d.dg.size ≤ 5 ∧ d.mo.size ≤ 2 ∧ d.da.size ≤ 2 ∧ 0 ≤ d.sig ∧ d.sig ≤ 100 ∧ 0 ≤ d.m0 ∧ 0 ≤ d.m1 ∧ 0 ≤ d.m2) := Lib.hid (by
        rintro d rfl
        obtain ⟨b0, b1, b2, b3, b4, b5, g0, g1, g2⟩ := HA.out
        have hy := HG.out
        have hms : mo'.size ≤ 2 := by
          rcases HMO.out with ⟨_, h⟩ | ⟨_, h⟩
          · by_cases e : m = 0
            · rw [h, e]; show (0 : Nat) ≤ 2; omega
            · have := (mon_ok hm e).1; rw [h]; omega
          · rw [h]; show (0 : Nat) ≤ 2; omega
        have hds : da'.size ≤ 2 := by
          rcases HDA.out with h | ⟨h1, h2, h3, h4, h5⟩
          · omega
          · have := (day_ok hm hk h2 h3 (by rw [← h1]; exact h4)).1; rw [h5]; omega
        have hma : marksE a0 a1 a2 (comps mo' da') = 0 := by
          rw [HN.out]
          unfold marksE
          rw [if_pos ⟨b1, b3, b5, fun h => g2 (by omega), fun h => g1 (by omega)⟩]
        have := made_ok (d := ⟨neg, long, s, ex, sig, mo', da', a0, a1, a2⟩) hy (fun h => by
          rcases HMO.out with ⟨h1, _⟩ | ⟨_, h1⟩
          · have h : 0 < sig := h
            omega
          · show mo'.size = 0; rw [h1]; rfl) hm hk (by
          rcases HMO.out with ⟨_, h1⟩ | ⟨_, h1⟩
          · exact .inl h1
          · right; show mo'.size = 0; rw [h1]; rfl) HDA.out hma
        exact ⟨this.1, this.2, hy.2.2.2.2.2.2, hms, hds, hy.2.2.1, hy.2.2.2.1, b0, b2, b4⟩)
      clear HA HN HMO HDA HG
      go_wp2_with (go_at_call 67; refine (HC2.out _ _ _ _).mono ?_; rintro _ w2 ⟨rfl, hb⟩; replace HW := Lib.hid (HW.out.later hb); clear hb c0 c1 c2 c3 c4 c5 c6 c7 c8 c9 q0 q1 q2 q3 q4 q5 q6 q7 q8 q9; have q0 : World.cell? _ ⟨p, 0, none⟩ = some (.bool neg) := HW.out.y.cell 0 _ rfl; have q1 : World.cell? _ ⟨p, 1, none⟩ = some (.bool long) := HW.out.y.cell 1 _ rfl; have q2 : World.cell? _ ⟨p, 2, none⟩ = some (.string s) := HW.out.y.cell 2 _ rfl; have q3 : World.cell? _ ⟨p, 3, none⟩ = some (.int .i64 ex) := HW.out.y.cell 3 _ rfl; have q4 : World.cell? _ ⟨p, 4, none⟩ = some (.int .i64 sig) := HW.out.y.cell 4 _ rfl; have q5 : World.cell? _ ⟨p, 5, none⟩ = some (.string mo') := HW.out.y.cell 5 _ rfl; have q6 : World.cell? _ ⟨p, 6, none⟩ = some (.string da') := HW.out.y.cell 6 _ rfl; have q7 : World.cell? _ ⟨p, 7, none⟩ = some (.int .u8 a0) := HW.out.y.cell 7 _ rfl; have q8 : World.cell? _ ⟨p, 8, none⟩ = some (.int .u8 a1) := HW.out.y.cell 8 _ rfl; have q9 : World.cell? _ ⟨p, 9, none⟩ = some (.int .u8 a2) := HW.out.y.cell 9 _ rfl; have r0 := HW.out.r.cell 0 _ rfl; have s0 := HW.out.r.free 0 (by unfold lstD; simp); have r1 := HW.out.r.cell 1 _ rfl; have s1 := HW.out.r.free 1 (by unfold lstD; simp); have r2 := HW.out.r.cell 2 _ rfl; have s2 := HW.out.r.free 2 (by unfold lstD; simp); have r3 := HW.out.r.cell 3 _ rfl; have s3 := HW.out.r.free 3 (by unfold lstD; simp); have r4 := HW.out.r.cell 4 _ rfl; have s4 := HW.out.r.free 4 (by unfold lstD; simp); have r5 := HW.out.r.cell 5 _ rfl; have s5 := HW.out.r.free 5 (by unfold lstD; simp); have r6 := HW.out.r.cell 6 _ rfl; have s6 := HW.out.r.free 6 (by unfold lstD; simp); have r7 := HW.out.r.cell 7 _ rfl; have s7 := HW.out.r.free 7 (by unfold lstD; simp); have r8 := HW.out.r.cell 8 _ rfl; have s8 := HW.out.r.free 8 (by unfold lstD; simp); have r9 := HW.out.r.cell 9 _ rfl; have s9 := HW.out.r.free 9 (by unfold lstD; simp))
      have hY := HW.out.r.setAll (lstD ⟨neg, long, s, ex, sig, mo', da', a0, a1, a2⟩) rfl
      have hR := HR.out _ rfl
      exact bodyPost_ret (v := dtv ⟨neg, long, s, ex, sig, mo', da', a0, a1, a2⟩) (results_lone Tryz.results34 _ rfl (run_loadVar_mid _ _ 0 52 (lstD ⟨neg, long, s, ex, sig, mo', da', a0, a1, a2⟩) _ hY.range Tryz.underlying52 rfl info_date)) rfl ⟨_, hR.1, hR.2.1, hR.2.2.1, hR.2.2.2.1, hR.2.2.2.2.1, hR.2.2.2.2.2.1, hR.2.2.2.2.2.2.1, hR.2.2.2.2.2.2.2.1, hR.2.2.2.2.2.2.2.2.1, hR.2.2.2.2.2.2.2.2.2, rfl, hY.below⟩
end Bk
end Go.Proofs.YtipjmaimjchckaaGreatDoor

