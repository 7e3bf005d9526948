/- THE WALK of FloatsKnown: it returns true; what it lays is new memory. -/
import Derived.Test.YtjcjffakemcalaaFlLawWhole2
import Derived.Deep.QuietTactic
import Derived.BigQuiet
set_option linter.unusedSimpArgs false
set_option linter.unusedVariables false
namespace Go.Proofs.Ytjcjffakemcalaa
open Go.RowKit
namespace Fl

theorem quietS {P : Program} {f : FuncId} {args : Array Value} {w : World} {n : Nat} {v : Value}
    (h : Calls P f args (w.drewN n) fun e w' => e = .returned v ∧ w.drewN n = w') : Calls P f args (w.drewN n) fun e w'' => e = .returned v ∧ ∃ m, w'' = w.drewN m :=
  h.mono fun _ _ ⟨he, hm⟩ => ⟨he, n, hm.symm⟩
theorem quietB {P : Program} {f : FuncId} {args : Array Value} {w : World} {n : Nat} {b : Bool}
    (h : Calls P f args (w.drewN n) (DrewB (w.drewN n) b)) : Calls P f args (w.drewN n) fun e w'' => e = .returned (.bool b) ∧ ∃ m, w'' = w.drewN m :=
  h.mono fun _ _ ⟨m, he, hm⟩ => ⟨he, n + m, by rw [hm, World.drewN_drewN]⟩

def kl : List Nat := [18442240474082181120, 18442240474082181119, 14114281232179134464, 13830554455654793216, 13826050856027422720, 9223372036854775809, 9223372036854775808, 0, 1, 4503599627370496, 4602678819172646912, 4607182418800017408, 4609434218613702656, 4845873199050653695, 4845873199050653696, 4890909195324358655, 4890909195324358656, 9218868437227405311, 9218868437227405312, 9221120237041090561]
def kw : List Int := [-9223372036854775808, -9223372036854775807, -9007199254740993, -1, 0, 1, 9007199254740991, 9007199254740992, 9007199254740993, 4611686018427387905, 9223372036854774784, 9223372036854775296, 9223372036854775807]
def kf (i : Nat) : Nat := (kl[i]?).getD 0
def kn (i : Nat) : Int := (kw[i]?).getD 0
theorem kf_lt : ∀ i < 20, kf i < 18446744073709551616 := by decide
theorem kn_lo : ∀ i < 13, -9223372036854775808 ≤ kn i := by decide
theorem kn_hi : ∀ i < 13, kn i < 9223372036854775808 := by decide
theorem kf_ord : ∀ i < 20, ∀ k < 20, cmpI ((ky (kf i) : Nat) : Int) ((ky (kf k) : Nat) : Int) = cmpI (i : Int) (k : Int) := by decide +kernel

theorem kl_at (i : Nat) (hi : i < 20) : ((kl.map (Value.float .f64)).toArray)[i]? = some (.float .f64 (kf i)) := by
  have h : i < kl.length := hi
  rw [List.getElem?_toArray, List.getElem?_map, List.getElem?_eq_getElem h]
  unfold kf
  rw [List.getElem?_eq_getElem h]; rfl
theorem kw_at (i : Nat) (hi : i < 13) : ((kw.map (Value.int .i64)).toArray)[i]? = some (.int .i64 (kn i)) := by
  have h : i < kw.length := hi
  rw [List.getElem?_toArray, List.getElem?_map, List.getElem?_eq_getElem h]
  unfold kn
  rw [List.getElem?_eq_getElem h]; rfl
theorem cell_two_a (w : World) (A B : Array Value) (t u : TypeId) (i : Nat) : ((w.alloc (.cells A t)).alloc (.cells B u)).cell? ⟨w.heap.size, i, none⟩ = A[i]? := by
  rw [World.cell?_alloc_past _ _ _ (by simp), World.cell?_alloc_new]
theorem cell_two_b (w : World) (A B : Array Value) (t u : TypeId) (i : Nat) : ((w.alloc (.cells A t)).alloc (.cells B u)).cell? ⟨w.heap.size + 1, i, none⟩ = B[i]? :=
  World.cell?_alloc_at _ _ _ _ (by simp)

def KnownW (w W : World) : Prop := (∀ i < 20, W.cell? ⟨w.heap.size, i, none⟩ = some (.float .f64 (kf i))) ∧ (∀ i < 13, W.cell? ⟨w.heap.size + 1, i, none⟩ = some (.int .i64 (kn i))) ∧ Below w.heap.size w W

set_option maxRecDepth 100000 in
set_option maxHeartbeats 1000000 in
theorem known_any (w : World) :
    Calls Try.prog 7 #[] w (fun e w' => e = .returned (.bool true) ∧ Below w.heap.size w w') := by
  go_enter Try.func7, Try.ntmps7
  go_wp2_with (first
    | (go_at_call 27; refine (inf_pos _ _ (by decide)).mono ?_; rintro e w' ⟨rfl, rfl⟩)
    | (go_at_call 27; refine (inf_neg _ _ (by decide)).mono ?_; rintro e w' ⟨rfl, rfl⟩)
    | (go_at_call 29; refine (nan_any _).mono ?_; rintro e w' ⟨rfl, rfl⟩)
    | (go_at_call 28; refine (copysign_any _).mono ?_; rintro e w' ⟨rfl, rfl⟩))
  generalize hW : (w.alloc _).alloc _ = W0
  have hk : KnownW w W0 := by
    subst hW
    refine ⟨?_, ?_, ?_⟩
    · intro i hi
      exact (cell_two_a w _ _ _ _ i).trans (kl_at i hi)
    · intro i hi
      exact (cell_two_b w _ _ _ _ i).trans (kw_at i hi)
    · exact ((Below.refl _ _).alloc (Nat.le_refl _) _).alloc (by simp) _
  have HK := Lib.hid hk
  clear hk hW
  go_loopw [3] (fun i wr => ∃ k n : Nat, k ≤ 20 ∧ i = .int .i64 (k : Int) ∧ wr = W0.drewN n) (fun i _ => 20 - (intOf i).toNat)
  case atStart => exact ⟨0, 0, by omega, rfl, rfl⟩
  case round =>
    obtain ⟨i, n, hi, rfl, rfl⟩ := hrel
    by_cases hlt : i < 20
    · go_wp2
      go_loopw [4] (fun j wr => ∃ k n : Nat, k ≤ 20 ∧ j = .int .i64 (k : Int) ∧ wr = W0.drewN n) (fun j _ => 20 - (intOf j).toNat)
      case atStart => exact ⟨0, _, by omega, rfl, rfl⟩
      case round =>
        obtain ⟨k, m, hk, rfl, rfl⟩ := hrel
        by_cases hlk : k < 20
        · have hci := HK.out.1 i hlt
          have hck := HK.out.1 k hlk
          have hO := fun w => order_any (kf i) (kf k) w (kf_lt i hlt) (kf_lt k hlk)
          have HN := Lib.hid (fun w => lawNext (kf i) (kf k) w (kf_lt i hlt) (kf_lt k hlk))
          rw [kf_ord i hlt k hlk] at hO
          have i0 : (0 : Int) ≤ (i : Int) := by omega
          have k0 : (0 : Int) ≤ (k : Int) := by omega
          have i1 : (i : Int) < 20 := by omega
          have k1 : (k : Int) < 20 := by omega
          rcases Nat.lt_trichotomy i k with c | c | c
          · have c1 : (i : Int) < (k : Int) := by omega
            have c2 : decide (i < k) = true := decide_eq_true c
            have c3 : ((i : Int) == (k : Int)) = false := by rw [beq_eq_false_iff_ne]; omega
            have c5 : (i == k) = false := by rw [beq_eq_false_iff_ne]; omega
            have c4 : decide (k < i) = false := decide_eq_false (by omega)
            rw [← cmpI_lt c1] at hO
            have HO := Lib.hid hO; clear hO c1 c
            go_wp2
            go_quiet ((go_at_call 8; (refine (HO.out _).mono ?_); rintro e w' ⟨rfl, rfl⟩; exact ⟨rfl, _, rfl⟩))
            go_wp2
            go_quiet ((go_at_call 4; (refine (HN.out _).mono ?_); rintro e w' ⟨j, rfl, rfl⟩; exact ⟨rfl, _, by rw [World.drewN_drewN, Nat.add_assoc]⟩))
            go_wp2
            go_roundw
            case rel => exact ⟨k + 1, _, by omega, by go_num, rfl⟩
            case measure => simp [intOf]; omega
          · subst c
            have c3 : ((i : Int) == (i : Int)) = true := by simp
            rw [cmpI_self] at hO
            have HO := Lib.hid hO; clear hO hck k0 k1 hlk hk
            go_wp2
            go_quiet ((go_at_call 8; (refine (HO.out _).mono ?_); rintro e w' ⟨rfl, rfl⟩; exact ⟨rfl, _, rfl⟩))
            go_wp2
            go_quiet ((go_at_call 4; (refine (HN.out _).mono ?_); rintro e w' ⟨j, rfl, rfl⟩; exact ⟨rfl, _, by rw [World.drewN_drewN, Nat.add_assoc]⟩))
            go_wp2
            go_roundw
            case rel => exact ⟨i + 1, _, by omega, by go_num, rfl⟩
            case measure => simp [intOf]; omega
          · have c1 : (k : Int) < (i : Int) := by omega
            have c2 : decide (i < k) = false := decide_eq_false (by omega)
            have c3 : ((i : Int) == (k : Int)) = false := by rw [beq_eq_false_iff_ne]; omega
            have c5 : (i == k) = false := by rw [beq_eq_false_iff_ne]; omega
            have c4 : decide (k < i) = true := decide_eq_true c
            rw [← cmpI_gt c1] at hO
            have HO := Lib.hid hO; clear hO c1 c
            go_wp2
            go_quiet ((go_at_call 8; (refine (HO.out _).mono ?_); rintro e w' ⟨rfl, rfl⟩; exact ⟨rfl, _, rfl⟩))
            go_wp2
            go_quiet ((go_at_call 4; (refine (HN.out _).mono ?_); rintro e w' ⟨j, rfl, rfl⟩; exact ⟨rfl, _, by rw [World.drewN_drewN, Nat.add_assoc]⟩))
            go_wp2
            go_roundw
            case rel => exact ⟨k + 1, _, by omega, by go_num, rfl⟩
            case measure => simp [intOf]; omega
        · have e : k = 20 := by omega
          subst e
          go_wp2
          go_loopw [6] (fun j wr => ∃ k n : Nat, k ≤ 13 ∧ j = .int .i64 (k : Int) ∧ wr = W0.drewN n) (fun j _ => 13 - (intOf j).toNat)
          case atStart => exact ⟨0, _, by omega, rfl, rfl⟩
          case round =>
            obtain ⟨j, m2, hj, rfl, rfl⟩ := hrel
            by_cases hlj : j < 13
            · obtain ⟨s, hs⟩ : ∃ s : Int, s = (i : Int) + (j : Int) := ⟨_, rfl⟩
              obtain ⟨q, hq⟩ : ∃ q : Nat, q = (i + j) % 13 := ⟨_, rfl⟩
              have hq13 : q < 13 := by omega
              have e1 : IntKind.i64.wrap ((i : Int) + (j : Int)) = s := by rw [hs]; simp [IntKind.wrap, IntKind.bits, IntKind.signed]; omega
              have e2 : s.tmod 13 = (q : Int) := by rw [Int.tmod_eq_emod_of_nonneg (by omega)]; omega
              have hci := HK.out.1 i hlt
              have hcj := HK.out.2.1 j hlj
              have hcq := HK.out.2.1 q hq13
              have HN := Lib.hid (fun w => lawNear (kn j) (kn q) w (kn_lo j hlj) (kn_hi j hlj) (kn_lo q hq13) (kn_hi q hq13))
              have HW := Lib.hid (fun w => lawWhole (kf i) (kn j) w (kf_lt i hlt) (kn_lo j hlj) (kn_hi j hlj))
              have i0 : (0 : Int) ≤ (i : Int) := by omega
              have j0 : (0 : Int) ≤ (j : Int) := by omega
              have q0 : (0 : Int) ≤ (q : Int) := by omega
              have i1 : (i : Int) < 20 := by omega
              have j1 : (j : Int) < 13 := by omega
              have q1 : (q : Int) < 13 := by omega
              clear hs hq
              go_wp2
              go_quiet ((first
                | (go_at_call 6; (refine (HW.out _).mono ?_); rintro e w' ⟨j, rfl, rfl⟩; exact ⟨rfl, _, by rw [World.drewN_drewN, Nat.add_assoc]⟩)
                | (go_at_call 5; (refine (HN.out _).mono ?_); rintro e w' ⟨j, rfl, rfl⟩; exact ⟨rfl, _, by rw [World.drewN_drewN, Nat.add_assoc]⟩)))
              go_wp2
              go_roundw
              case rel => exact ⟨j + 1, _, by omega, by go_num, rfl⟩
              case measure => simp [intOf]; omega
            · have e : j = 13 := by omega
              subst e
              go_wp2
              go_roundw
              case rel => exact ⟨i + 1, _, by omega, by go_num, rfl⟩
              case measure => simp [intOf]; omega
    · have HB := Lib.hid HK.out.2.2
      have e : i = 20 := by omega
      subst e
      go_wp2_with (go_at_call 11; refine (lives_any _).mono ?_; rintro e w' ⟨n, rfl, rfl⟩)
      go_ret
      exact ⟨rfl, below_drewN HB.out _⟩
end Fl
end Go.Proofs.Ytjcjffakemcalaa
