/- THE WALK of circaref16.All. -/
import Derived.Test.YtipjmaimjchckaaGreatDoorNP
import Derived.Deep.Upon
import Derived.Test.YtipjmaimjchckaaGreatDoorNN
import Derived.Test.YtipjmaimjchckaaGreatDoorNJ
import Derived.Test.YtipjmaimjchckaaGreatDoorNU
/-! THE WALK of circaref16.All. -/
set_option linter.unusedSimpArgs false
set_option linter.unusedVariables false
set_option maxRecDepth 100000
namespace Go.Proofs.YtipjmaimjchckaaGreatDoor
open Go.RowKit Go.Lib
namespace Bk
open Un (ba bt ri rb ret2_ii ret2_bi)

theorem wpList_append_two {P : Program} (w : World) {ops : Array Oper} {rest : List Oper} {o : Oper} {a : Act} {Q : Exit → Act → World → Prop} (hgd : o.guard = none) (s x : Operand) (t : TypeId)
    (ho : o.op = .call { callee := .builtin .append, args := #[s, x], argTypes := #[t, t] })
    (base : Nat) (e : TypeId) (i : TypeInfo) (z : Value) (size bytes : Nat) (ht : P.underlying t = some (.slice e)) (hi : P.info? e = some i) (hz : i.zero = some z)
    (hsize : i.size = size) (hby : i.bytes = bytes) (hzs : z.cells.size = size) (hsz : 0 < size)
    (v : Value) (n : Nat) (xs : List Value) (hs : a.eval s = v) (hown : w.ownsRow base e size v n xs)
    (B2 : Nat) (v2 : Value) (n2 : Nat) (xs2 : List Value) (hx : a.eval x = v2) (hown2 : w.ownsRow B2 e size v2 n2 xs2) (h1 : ∀ u ∈ xs2, u.oneCell' = true)
    (h63 : n + n2 ≤ maxLen) (hbytes : (n + n2) * bytes ≤ 140737488355328) (hbase : base ≤ w.heap.size)
    (h : ∀ v' w', w'.ownsRow base e size v' (n + n2) (xs ++ xs2) → w.grownBy w' v.ownBlock → wpList P ops Q rest (a.put o.dst v') w') : wpList P ops Q (o :: rest) a w := by
  have hl2 := hown2.1
  rcases hown2.2 with ⟨rfl, rfl⟩ | ⟨g, cap, cur, rfl, _⟩
  · have hx2 : xs2 = [] := by rw [Nat.zero_mul] at hl2; exact List.length_eq_zero_iff.1 hl2
    subst hx2
    refine wpList_plain hgd fun K hK => ?_
    have hr : (Builtin.append_ #[t, t] o.type #[v, .slice none 0 0]).run P w = .ok v w := by
      rcases hown.2 with ⟨rfl, rfl⟩ | ⟨g, cap, cur, rfl, _, _, hle, _⟩
      · exact run_append_nothing w t t o.type e i ht hi none 0 0 (Nat.le_refl _) _ (Src.ofNil w ht 0)
      · exact run_append_nothing w t t o.type e i ht hi (some ⟨g, 0, none⟩) n cap hle _ (Src.ofNil w ht 0)
    have hf := hK _ _ (h v w (by simpa using hown) ⟨rfl, rfl, rfl, Nat.le_refl _, fun _ _ _ => rfl⟩)
    unfold Oper.wp
    simp [execOp, ho, resolve, invoke, builtin, hs, hx, hr, Result.andThen]
    exact hf
  · exact wpList_append_own w hgd s x t ho base e i z size bytes ht hi hz hsize hby hzs hsz v n xs hs hown ⟨g, 0, none⟩ n2 cap xs2 hx hl2 (hown2.cells rfl) h1 h63 hbytes hbase (fun v' w' h2 h3 _ => h v' w' h2 h3)

/-- How many years there can be. -/
theorem cnt_ex (d : Dt) : ∃ K : Int → Nat, (∀ y, K y ≤ K (y + 1)) ∧ (∀ y, d.In y → K y + 1 ≤ K (y + 1)) ∧ ∀ y, K y ≤ 20000 := by
  cases hm : d.mask
  · refine ⟨fun y => if y ≤ (if d.neg = true then -d.mag else d.mag) then 0 else 1, fun y => ?_, fun y hy => ?_, fun y => ?_⟩
    · show (if _ then 0 else 1) ≤ (if _ then 0 else 1)
      (repeat' split) <;> omega
    · unfold Dt.In at hy
      rw [hm, if_neg (by decide)] at hy
      show (if _ then 0 else 1) + 1 ≤ (if _ then 0 else 1)
      rw [if_pos (by omega), if_neg (by omega)]
      omega
    · show (if _ then 0 else 1) ≤ _
      (repeat' split) <;> omega
  · refine ⟨fun y => (min (max (y + 9999) 0) 19999).toNat, fun y => ?_, fun y hy => ?_, fun y => ?_⟩
    · show (min (max (y + 9999) 0) 19999).toNat ≤ (min (max (y + 1 + 9999) 0) 19999).toNat
      omega
    · unfold Dt.In at hy
      rw [hm, if_pos rfl] at hy
      have : -9999 ≤ y ∧ y ≤ 9999 := by
        split at hy
        · have := hy.1.1; have := hy.1.2.1; omega
        · have := hy.1; have := hy.2.1; omega
      show (min (max (y + 9999) 0) 19999).toNat + 1 ≤ (min (max (y + 1 + 9999) 0) 19999).toNat
      omega
    · show (min (max (y + 9999) 0) 19999).toNat ≤ _
      omega
/-- The fillings of a year. -/
def Dt.yfl (d : Dt) (y : Int) : List (Int × Int × Int) := (d.civs y d.ms).map fun p => (y, p.1, p.2)
theorem yfl_cells (d : Dt) (y : Int) : d.ycells y d.ms = flat3 (d.yfl y) := civs_cells d y d.ms
theorem yfl_len (d : Dt) (y : Int) : (d.yfl y).length = d.ylen y d.ms := by unfold Dt.yfl; rw [List.length_map, civs_len]
theorem yfl_le (d : Dt) (y : Int) : d.ylen y d.ms ≤ 372 := by
  have h1 := ylen_le d y d.ms
  have h2 := d.ms_len
  omega
theorem mem_yfl {d : Dt} {y : Int} (hy : d.In y) {p : Int × Int × Int} (hp : p ∈ d.yfl y) : d.Fill p.1 p.2.1 p.2.2 := by
  unfold Dt.yfl at hp
  rw [List.mem_map] at hp
  obtain ⟨q, hq, rfl⟩ := hp
  have := mem_civs.1 hq
  exact ⟨hy, this.1, this.2.1, this.2.2⟩
theorem yfl_ne {d : Dt} {y m k : Int} (h : d.Fill y m k) : d.yfl y ≠ [] := by
  intro e
  have h2 := yfl_len d y
  rw [e] at h2
  have := ylen_pos.2 ⟨m, k, h.2.1, h.2.2.1, h.2.2.2⟩
  simp at h2; omega
theorem flat3_one (l : List (Int × Int × Int)) : ∀ u ∈ flat3 l, u.oneCell' = true := by
  intro u hu
  unfold flat3 at hu
  rw [List.mem_flatMap] at hu
  obtain ⟨p, _, h⟩ := hu
  simp [civC] at h
  rcases h with rfl | rfl | rfl <;> rfl

set_option maxHeartbeats 4000000 in
theorem rAll16_any (d : Dt) (w : World) (hy : d.dg.size ≤ 1000) (hf : d.form = 0) (hs : d.sig ≤ 0) :
    Calls Tryz.prog 35 #[dtv d] w (RetAll d w) := by
  have hk := (Dt.yearOk_facts (Dt.form_zero hf).1).1
  have hD := Dm.new d w 52
  have HSP := Lib.hid (fun w => rSpan_any d w hy hk hs)
  have HIN := Lib.hid (fun y w h0 h1 => rIn_any d y w hy hk hs h0 h1)
  have HYL := Lib.hid (fun y w => rYl_any d y w hf)
  obtain ⟨K, hK1, hK2, hK3⟩ := cnt_ex d
  have HKK := Lib.hid (⟨hK1, hK2, hK3⟩ : _ ∧ _ ∧ _)
  obtain ⟨i0, hi, hz0, hz1, hz2⟩ := info_parts info_civ
  have HI := Lib.hid hi; have HZ0 := Lib.hid hz0; have HZ1 := Lib.hid hz1; have HZ2 := Lib.hid hz2
  clear hi hz0 hz1 hz2 hf hk hK1 hK2 hK3
  unfold yv at HSP HIN
  unfold dtv at HYL
  unfold dtv
  go_enter Tryz.func35, Tryz.ntmps35
  go_upto_region 1 with (fail)
  generalize World.alloc _ _ = W0 at hD ⊢
  obtain ⟨q0, q1, q2, q3, q4, q5, q6, q7, q8, q9, qB⟩ := id hD
  go_wp2_with (go_at_call 68; refine (HSP.out _).mono ?_; rintro _ w1 ⟨a, b, hab, a0, b0, rfl, hb⟩; replace hD := hD.later hb; clear hb)
  have HAB := Lib.hid hab
  have HBA := Lib.hid (⟨a0, b0⟩ : _ ∧ _)
  clear hab q0 q1 q2 q3 q4 q5 q6 q7 q8 q9 qB HSP a0 b0
  have HD1 := Lib.hid hD
  clear hD
  go_loopw [3, 6] (fun s3 s6 wr => ∃ (y : Int) (L : List (Int × Int × Int)), a ≤ y ∧ (y ≤ b + 1 ∨ y = a) ∧ s6 = .int .i64 y ∧ wr.ownsRow w1.heap.size 56 3 s3 L.length (flat3 L) ∧ (∀ p, p ∈ L → d.Fill p.1 p.2.1 p.2.2) ∧ L.length ≤ 372 * K y ∧ (∀ z m k, z < y → d.Fill z m k → L ≠ []) ∧ Below w1.heap.size w1 wr) (fun _ i _ => (b + 1 - intOf i).toNat)
  case atStart => exact ⟨a, [], by omega, .inr rfl, rfl, ⟨rfl, .inl ⟨rfl, rfl⟩⟩, fun p hp => (by cases hp), by simp, fun z m k h1 h2 => absurd (HAB.out z h2.1).1 (by omega), Below.refl _ _⟩
  case round =>
    obtain ⟨y, L, hy0, hy1, rfl, hown, hF, hlen, hne, hb⟩ := hrel
    have HF := Lib.hid hF; have HL := Lib.hid hlen; have HNE := Lib.hid hne; have HB := Lib.hid hb; have HO := Lib.hid hown
    have hD := HD1.out.later hb
    obtain ⟨q0, q1, q2, q3, q4, q5, q6, q7, q8, q9, qB⟩ := id hD
    clear hF hlen hne hb hown
    obtain ⟨p0, p1⟩ := HBA.out
    by_cases hlt : y ≤ b
    · have HIX := Lib.hid (fun w => HIN.out y w (by omega) (by omega))
      by_cases hi : d.In y
      · have HI2 : Hid (∀ w, Calls Tryz.prog 60 #[.agg #[.bool d.neg, .bool d.long, .string d.dg, .int .i64 d.ex, .int .i64 d.sig], .int .i64 y] w fun r w' => r = .returned (.int .i64 1) ∧ Below w.heap.size w w') := Lib.hid (fun w => by
          refine (HIX.out w).mono ?_; rintro e w' ⟨x, ⟨rfl, _⟩ | ⟨rfl, h⟩, rfl, hb⟩
          · exact ⟨rfl, hb⟩
          · exact absurd hi h)
        have HII := Lib.hid hi
        have HYL2 := Lib.hid (fun w => HYL.out y w)
        have hb1 := HKK.out.2.1 y hi
        have hb2 := HKK.out.2.2 (y + 1)
        have hb3 := yfl_le d y
        have hb4 := HL.out
        have HT : Hid (L.length + d.ylen y d.ms ≤ 372 * K (y + 1) ∧ 372 * K (y + 1) ≤ 7440000) := Lib.hid (by omega)
        have HOT : Hid (flat3 (L ++ d.yfl y) = flat3 L ++ d.ycells y d.ms ∧ (L ++ d.yfl y).length = L.length + d.ylen y d.ms ∧ (∀ u ∈ d.ycells y d.ms, u.oneCell' = true)) := Lib.hid ⟨by rw [flat3_append, yfl_cells], by rw [List.length_append, yfl_len], by rw [yfl_cells]; exact flat3_one _⟩
        clear HIX HIN hi HYL hb1 hb2 hb3 hb4
        have HBASE := Lib.hid HB.out.size
        as_aux_lemma =>
          go_wp2_with (first
            | (go_at_call 60; with_reducible refine (HI2.out _).mono ?_; rintro _ w2 ⟨rfl, hb⟩; replace HO := Lib.hid (own_below HO.out hb); replace HB := Lib.hid (bt HB.out hb); replace hD := hD.later hb; clear hb q0 q1 q2 q3 q4 q5 q6 q7 q8 q9 qB; obtain ⟨q0, q1, q2, q3, q4, q5, q6, q7, q8, q9, qB⟩ := id hD)
            | (go_at_call 61; refine (HYL2.out _).mono ?_; rintro _ w3 ⟨v2, rfl, hown2, hb⟩; replace HO := Lib.hid (own_below HO.out hb); replace HB := Lib.hid (bt HB.out hb); have HO2 := Lib.hid hown2; clear hb hown2 hD q0 q1 q2 q3 q4 q5 q6 q7 q8 q9 qB)
            | (at_builtin; refine wpList_append_two _ rfl _ _ 72 rfl w1.heap.size 56 i0 (.agg #[.int .i64 0, .int .i64 0, .int .i64 0]) 3 24 Tryz.underlying72 HI.out HZ0.out HZ1.out HZ2.out rfl (by decide) _ _ _ rfl HO.out _ _ _ _ rfl HO2.out HOT.out.2.2 ?c1 ?c2 HB.out.size ?_))
          case c1 => have := HT.out; unfold maxLen; omega
          case c2 => have := HT.out; omega
          intro v' w4 hown' hgrow
          have hB2 := HB.out.grown hgrow HB.out.size (fun j hj => (HO.out.lt j hj).1)
          have hO2 : w4.ownsRow w1.heap.size 56 3 v' (L ++ d.yfl y).length (flat3 (L ++ d.yfl y)) := by rw [HOT.out.1, HOT.out.2.1]; exact hown'
          replace hB2 := Lib.hid hB2
          replace hO2 := Lib.hid hO2
          clear hown' hgrow HO2
          go_wp2
          go_roundw
          case rel =>
            refine ⟨y + 1, L ++ d.yfl y, by omega, .inl (by omega), by go_num, hO2.out, fun p hp => ?_, by rw [HOT.out.2.1]; exact HT.out.1, fun z m k h1 h2 h3 => ?_, hB2.out⟩
            · rcases List.mem_append.1 hp with h | h
              · exact HF.out p h
              · exact mem_yfl HII.out h
            · rw [List.append_eq_nil_iff] at h3
              by_cases e : z = y
              · subst e; exact yfl_ne h2 h3.2
              · exact HNE.out z m k (by omega) h2 h3.1
          case measure => simp [intOf]; omega
      · have HI2 : Hid (∀ w, Calls Tryz.prog 60 #[.agg #[.bool d.neg, .bool d.long, .string d.dg, .int .i64 d.ex, .int .i64 d.sig], .int .i64 y] w fun r w' => r = .returned (.int .i64 0) ∧ Below w.heap.size w w') := Lib.hid (fun w => by
          refine (HIX.out w).mono ?_; rintro e w' ⟨x, ⟨rfl, h⟩ | ⟨rfl, _⟩, rfl, hb⟩
          · exact absurd h hi
          · exact ⟨rfl, hb⟩)
        have HNI := Lib.hid hi
        clear HIX HYL HIN hi
        as_aux_lemma =>
          go_wp2_with (go_at_call 60; with_reducible refine (HI2.out _).mono ?_; rintro _ w2 ⟨rfl, hb⟩; replace HO := Lib.hid (own_below HO.out hb); replace HB := Lib.hid (bt HB.out hb); clear hb)
          go_roundw
          case rel => exact ⟨y + 1, L, by omega, .inl (by omega), by go_num, HO.out, HF.out, by have := HL.out; have := HKK.out.1 y; omega, fun z m k h1 h2 => by
            by_cases e : z = y
            · subst e; exact absurd h2.1 HNI.out
            · exact HNE.out z m k (by omega) h2, HB.out⟩
          case measure => simp [intOf]; omega
    · have HNP : Hid ((∃ y m k, d.Fill y m k) → L ≠ []) := Lib.hid (by
        rintro ⟨z, m, k, h⟩
        exact HNE.out z m k (by have := (HAB.out z h.1).2; omega) h)
      have HBB := Lib.hid (bt HD1.out.below HB.out)
      have HO2 := Lib.hid (own_mono HO.out HD1.out.below.size)
      clear HNE HAB HYL HIN HL HB HO
      as_aux_lemma =>
        go_wp2
        go_ret
        exact ⟨_, L, rfl, HO2.out, HF.out, HNP.out, HBB.out⟩
end Bk
end Go.Proofs.YtipjmaimjchckaaGreatDoor

/-! PLAIN LAW: the unit of a date has its precision. -/
set_option linter.unusedSimpArgs false
set_option linter.unusedVariables false
set_option maxRecDepth 100000
namespace Go.Proofs.YtipjmaimjchckaaGreatDoor
open Go.RowKit Go.Lib
namespace Bk
open Un (ba bt ri rb ret2_ii ret2_bi)
open Cal Un

theorem st_len (y : Int) : st (y + 1) = st y + 365 + lp y := by have := st_succ y; omega
theorem hold_year {y : Int} (y0 : -10000000000000000 ≤ y) (y1 : y ≤ 10000000000000000) : holdAll 1 (unitLo y 0 0) = (unitLo y 0 0, unitHi y 0 0, 0) ∧ holdAll 1 (unitHi y 0 0) = (unitLo y 0 0, unitHi y 0 0, 0) := by
  have h := st_len y
  have hl := lp_01 y
  have e1 : unitLo y 0 0 = st y := by unfold unitLo; rw [if_pos rfl]
  have e2 : unitHi y 0 0 = st (y + 1) - 1 := by unfold unitHi; rw [if_pos rfl]
  rw [e1, e2]
  have f1 : yof (st y) = y := yof_unique (by omega) (by omega)
  have f2 : yof (st (y + 1) - 1) = y := yof_unique (by omega) (by omega)
  constructor
  · unfold holdAll holdC; rw [if_neg (by omega), if_neg (by omega), f1, if_pos ⟨y0, y1⟩, if_pos rfl]
  · unfold holdAll holdC; rw [if_neg (by omega), if_neg (by omega), f2, if_pos ⟨y0, y1⟩, if_pos rfl]
theorem hold_month {y m : Int} (y0 : -10000000000000000 ≤ y) (y1 : y ≤ 10000000000000000) (m0 : 1 ≤ m) (m1 : m ≤ 12) : holdAll 2 (unitLo y m 0) = (unitLo y m 0, unitHi y m 0, 0) ∧ holdAll 2 (unitHi y m 0) = (unitLo y m 0, unitHi y m 0, 0) := by
  have h := st_len y
  have e1 : unitLo y m 0 = st y + cum y m := by unfold unitLo; rw [if_neg (by omega), if_neg (by omega), if_pos rfl]
  have e2 : unitHi y m 0 = st y + cum y (m + 1) - 1 := by unfold unitHi; rw [if_neg (by omega), if_neg (by omega), if_pos rfl]
  rw [e1, e2]
  have c0 := @cum_bd y m (by omega) (by omega)
  have c1 := @cum_bd y (m + 1) (by omega) (by omega)
  have cs := cum_succ y m m0 m1
  have lb := len_bd y m
  have cl := cum_last y
  have cm : cum y (m + 1) ≤ 365 + lp y := by
    by_cases e : m = 12
    · subst e; rw [← cl]; exact Int.le_refl _
    · have := @cum_mono y (m + 1) 13 (by omega) (by omega) (by omega)
      have := len_bd y (m + 1)
      omega
  have f1 : yof (st y + cum y m) = y := yof_unique (by omega) (by omega)
  have f2 : yof (st y + cum y (m + 1) - 1) = y := yof_unique (by omega) (by omega)
  have g1 : mof y (st y + cum y m - st y) = m := mof_unique m0 m1 (by omega) (by omega)
  have g2 : mof y (st y + cum y (m + 1) - 1 - st y) = m := mof_unique m0 m1 (by omega) (by omega)
  constructor
  · unfold holdAll holdC; rw [if_neg (by omega), if_neg (by omega), f1, if_pos ⟨y0, y1⟩, if_neg (by omega), g1]
  · unfold holdAll holdC; rw [if_neg (by omega), if_neg (by omega), f2, if_pos ⟨y0, y1⟩, if_neg (by omega), g2]
theorem hold_day {y m k : Int} (m0 : 1 ≤ m) (m1 : m ≤ 12) (k0 : 1 ≤ k) : holdAll 3 (unitLo y m k) = (unitLo y m k, unitHi y m k, 0) ∧ holdAll 3 (unitHi y m k) = (unitLo y m k, unitHi y m k, 0) := by
  have e : unitHi y m k = unitLo y m k := by unfold unitHi unitLo; rw [if_neg (by omega), if_neg (by omega), if_neg (by omega), if_neg (by omega), if_neg (by omega), if_neg (by omega)]
  rw [e]
  have : holdAll 3 (unitLo y m k) = (unitLo y m k, unitLo y m k, 0) := by unfold holdAll holdC; rw [if_neg (by omega), if_pos rfl]
  exact ⟨this, this⟩
theorem isC_of {p x y : Int} (h : holdAll p x = (x, y, 0)) : isC p 0 x 0 y = true := by unfold isC; rw [h]; simp
/-- What is known of the numbers of a filling. -/
structure Dt.Nums (d : Dt) (y m k : Int) : Prop where
  y0 : -10000000000000000 ≤ y
  y1 : y ≤ 10000000000000000
  mo : m = 0 ∨ (1 ≤ m ∧ m ≤ 12) ∨ (21 ≤ m ∧ m ≤ 41)
  da : k = 0 ∨ (1 ≤ m ∧ m ≤ 12 ∧ 1 ≤ k ∧ k ≤ 31)
  pr : (d.prec = 0) ∨ (d.prec = 1 ∧ m = 0 ∧ k = 0) ∨ (d.prec = 2 ∧ 1 ≤ m ∧ m ≤ 12 ∧ k = 0) ∨ (d.prec = 3 ∧ 1 ≤ m ∧ m ≤ 12 ∧ 1 ≤ k)
theorem Dt.nums {d : Dt} (hf : d.form = 0) {y m k : Int} (y0 : -10000000000000000 ≤ y) (y1 : y ≤ 10000000000000000) (hm : m ∈ d.ms) (hk : k ∈ d.ds) : d.Nums y m k := by
  have hbd : d.season = 0 ∨ (21 ≤ d.season ∧ d.season ≤ 41) := seasonC_bd d.mo
  rcases form_facts hf with ⟨h1, h2, h3⟩ | ⟨h1, h2, h3, h4⟩ | ⟨h1, h2, h3⟩
  · rw [Dt.ms_season h1, List.mem_singleton] at hm
    rw [Dt.ds_none h3, List.mem_singleton] at hk
    refine ⟨y0, y1, .inr (.inr (by omega)), .inl hk, .inl ?_⟩
    unfold Dt.prec; rw [if_neg (by omega), if_neg h2, if_pos h1]
  · rw [Dt.ms_fits h1 h2, mem_fitsL] at hm
    by_cases c : d.da.size = 0
    · rw [Dt.ds_none c, List.mem_singleton] at hk
      refine ⟨y0, y1, .inr (.inl (by omega)), .inl hk, .inr (.inr (.inl ⟨?_, by omega, by omega, hk⟩))⟩
      unfold Dt.prec; rw [if_neg (by omega), if_neg h2, if_neg (by omega)]
    · rw [Dt.ds_fits c, mem_fitsL] at hk
      refine ⟨y0, y1, .inr (.inl (by omega)), .inr (by omega), .inr (.inr (.inr ⟨?_, by omega, by omega, by omega⟩))⟩
      unfold Dt.prec; rw [if_pos c]
  · rw [Dt.ms_none h1 h2, List.mem_singleton] at hm
    have c := h3
    rw [Dt.ds_none c, List.mem_singleton] at hk
    refine ⟨y0, y1, .inl hm, .inl hk, .inr (.inl ⟨?_, hm, hk⟩)⟩
    unfold Dt.prec; rw [if_neg (by omega), if_pos h2]
theorem Dt.Nums.hold {d : Dt} {y m k : Int} (h : d.Nums y m k) : d.prec = 0 ∨ (1 ≤ d.prec ∧ d.prec ≤ 3 ∧ holdAll d.prec (unitLo y m k) = (unitLo y m k, unitHi y m k, 0) ∧ holdAll d.prec (unitHi y m k) = (unitLo y m k, unitHi y m k, 0)) := by
  rcases h.pr with e | ⟨e, rfl, rfl⟩ | ⟨e, m0, m1, rfl⟩ | ⟨e, m0, m1, k0⟩
  · exact .inl e
  · have := hold_year h.y0 h.y1
    right; rw [e]; exact ⟨by omega, by omega, this.1, this.2⟩
  · have := hold_month h.y0 h.y1 m0 m1
    right; rw [e]; exact ⟨by omega, by omega, this.1, this.2⟩
  · have := @hold_day y m k m0 m1 k0
    right; rw [e]; exact ⟨by omega, by omega, this.1, this.2⟩
theorem Dt.Nums.bd {d : Dt} {y m k : Int} (h : d.Nums y m k) : -9223372036854775808 ≤ unitLo y m k ∧ unitLo y m k < 9223372036854775808 ∧ -9223372036854775808 ≤ unitHi y m k ∧ unitHi y m k < 9223372036854775808 := by
  have y0 := h.y0; have y1 := h.y1
  have b0 := st_bd2 (y := y) (by omega) (by omega)
  have b1 := st_bd2 (y := y + 1) (by omega) (by omega)
  have hk : 0 ≤ k ∧ k ≤ 31 := by rcases h.da with e | e <;> omega
  rcases h.mo with rfl | hm | hm
  · unfold unitLo unitHi; rw [if_pos rfl, if_pos rfl]; omega
  · have c0 := @cum_bd y m (by omega) (by omega)
    have c1 := @cum_bd y (m + 1) (by omega) (by omega)
    unfold unitLo unitHi
    rw [if_neg (show ¬ m = 0 by omega), if_neg (show ¬ 12 < m by omega), if_neg (show ¬ m = 0 by omega), if_neg (show ¬ 12 < m by omega)]
    by_cases c : k = 0
    · rw [if_pos c, if_pos c]; omega
    · rw [if_neg c, if_neg c]; omega
  · have f := sf_bd m
    have e := seasHi_end y m hm.1 hm.2
    have b := @seasHi_bd y (sFrom m) (sMany m) y0 y1 (by omega) (by omega) (by omega)
    have c0 := @cum_bd y (sFrom m) (by omega) (by omega)
    unfold unitLo unitHi
    rw [if_neg (by omega), if_pos (by omega), if_neg (by omega), if_pos (by omega), ← e]
    omega
theorem Dt.fill_nums {d : Dt} (hf : d.form = 0) {y m k : Int} (h : d.Fill y m k) : d.Nums y m k := by
  have hk := (Dt.yearOk_facts (Dt.form_zero hf).1).1
  have hb := Dt.in_bd hk h.1
  exact Dt.nums hf hb.1 hb.2 h.2.1 h.2.2.1
theorem Dt.own_nums {d : Dt} (hf : d.form = 0) (hm : d.msk = false) : d.Nums (yVal d.neg d.dg d.ex) (decS d.mo) (decS d.da) := by
  obtain ⟨hx, hxm, hxd, hsg⟩ := msk_facts hm
  obtain ⟨hyk, _, hfar⟩ := Dt.yearOk_facts (Dt.form_zero hf).1
  obtain ⟨n1, n2, n3, n4⟩ := mo_num hf hxm
  obtain ⟨k1, k2, k3, k4⟩ := da_num hf hxd
  have hyb := yVal_bd (neg := d.neg) hyk hx
  exact Dt.nums hf hyb.1 hyb.2 (by rw [n3]; exact List.mem_singleton.2 rfl) (by rw [k3]; exact List.mem_singleton.2 rfl)
/-- A filling's numbers are its components'. -/
theorem Dt.fill_of {d : Dt} (hf : d.form = 0) {y m k : Int} (h : d.Fill y m k) : d.mOf m = m ∧ d.kOf k = k := by
  obtain ⟨_, h2, h3, _⟩ := h
  constructor
  · unfold Dt.mOf
    split
    · rename_i c
      have hs : d.season = 0 := season_size (by omega)
      rw [Dt.ms_none hs c, List.mem_singleton] at h2
      exact h2.symm
    · rfl
  · unfold Dt.kOf
    split
    · rename_i c
      rw [Dt.ds_none c, List.mem_singleton] at h3
      exact h3.symm
    · rfl
theorem Dt.fill_has {d : Dt} (he : d.err = 0) (hs : d.sig ≤ 0) {y m k : Int} (h : d.Fill y m k) : d.Has y m k :=
  ⟨cerr_zero.2 ⟨he, hs⟩, m, k, h, .inr rfl, .inr rfl⟩
end Bk
end Go.Proofs.YtipjmaimjchckaaGreatDoor

