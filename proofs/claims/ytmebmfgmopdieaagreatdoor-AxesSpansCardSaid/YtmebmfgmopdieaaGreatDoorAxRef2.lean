/- THE WALKS of layer 36's reference: Down, Up, Exact, Inf, Lo, Hi, Span; of the runs' and ends' checks. -/
import Derived.Test.YtmebmfgmopdieaaGreatDoorAxRef
set_option linter.unusedSimpArgs false
set_option linter.unusedVariables false
set_option maxRecDepth 100000
namespace Go.Proofs.YtmebmfgmopdieaaGreatDoor
open Go.RowKit
namespace Fl

theorem down36_any (n : Int) (w : World) (l0 : -9223372036854775808 ≤ n) (l1 : n < 9223372036854775808) :
    Calls Tryz.prog 12 #[.int .i64 n] w fun e w' => e = .returned (.float .f64 (downW n)) ∧ w = w' := by
  have hs := fun w => rmag_any n w l0 l1
  have hn := fun up w => near36_any n.natAbs up w (by omega)
  have HS := Lib.hid hs; have HN := Lib.hid hn
  clear hs hn
  by_cases c : n < 0
  · have e : downW n = negW (rnearW n.natAbs true) := by unfold downW rnearW; rw [if_pos c, if_pos rfl, negW_wd (by have := upr_le l0 l1; omega)]
    have E := Lib.hid e; clear e l0 l1
    go_enter Tryz.func12, Tryz.ntmps12
    go_wp2_with (first | (go_at_call 41; refine (HS.out _).mono ?_; rintro e w' ⟨rfl, rfl⟩) | (go_at_call 40; refine (HN.out _ _).mono ?_; rintro e w' ⟨rfl, rfl⟩))
    go_ret
    exact ⟨rf E.out.symm, rfl⟩
  · have e : downW n = rnearW n.natAbs false := by unfold downW rnearW; rw [if_neg c, if_neg (by decide)]
    have E := Lib.hid e; clear e l0 l1
    go_enter Tryz.func12, Tryz.ntmps12
    go_wp2_with (first | (go_at_call 41; refine (HS.out _).mono ?_; rintro e w' ⟨rfl, rfl⟩) | (go_at_call 40; refine (HN.out _ _).mono ?_; rintro e w' ⟨rfl, rfl⟩))
    go_ret
    exact ⟨rf E.out.symm, rfl⟩
theorem up36_any (n : Int) (w : World) (l0 : -9223372036854775808 ≤ n) (l1 : n < 9223372036854775808) :
    Calls Tryz.prog 13 #[.int .i64 n] w fun e w' => e = .returned (.float .f64 (upW n)) ∧ w = w' := by
  have hs := fun w => rmag_any n w l0 l1
  have hn := fun up w => near36_any n.natAbs up w (by omega)
  have HS := Lib.hid hs; have HN := Lib.hid hn
  clear hs hn
  by_cases c : n < 0
  · have e : upW n = negW (rnearW n.natAbs false) := by unfold upW rnearW; rw [if_pos c, if_neg (by decide), negW_wd (by have := dn_le_inf l0 l1; omega)]
    have E := Lib.hid e; clear e l0 l1
    go_enter Tryz.func13, Tryz.ntmps13
    go_wp2_with (first | (go_at_call 41; refine (HS.out _).mono ?_; rintro e w' ⟨rfl, rfl⟩) | (go_at_call 40; refine (HN.out _ _).mono ?_; rintro e w' ⟨rfl, rfl⟩))
    go_ret
    exact ⟨rf E.out.symm, rfl⟩
  · have e : upW n = rnearW n.natAbs true := by unfold upW rnearW; rw [if_neg c, if_pos rfl]
    have E := Lib.hid e; clear e l0 l1
    go_enter Tryz.func13, Tryz.ntmps13
    go_wp2_with (first | (go_at_call 41; refine (HS.out _).mono ?_; rintro e w' ⟨rfl, rfl⟩) | (go_at_call 40; refine (HN.out _ _).mono ?_; rintro e w' ⟨rfl, rfl⟩))
    go_ret
    exact ⟨rf E.out.symm, rfl⟩

theorem exact_iff {n : Int} (l0 : -9223372036854775808 ≤ n) (l1 : n < 9223372036854775808) : (downW n = upW n) ↔ mg (dn (n.natAbs * U)) = n.natAbs * U := by
  have h1 := dn_le_inf l0 l1
  unfold downW upW upr
  by_cases c : mg (dn (n.natAbs * U)) = n.natAbs * U
  · rw [if_pos c]; simp [c]
  · rw [if_neg c]
    by_cases d : n < 0
    · simp only [d, if_true, c, iff_false]; unfold wd; simp
    · simp [d, c]

/-- Exact, as a number. -/
def exI (n : Int) : Int := if downW n = upW n then 1 else 0

theorem exact36_any (n : Int) (w : World) (l0 : -9223372036854775808 ≤ n) (l1 : n < 9223372036854775808) :
    Calls Tryz.prog 14 #[.int .i64 n] w fun e w' => e = .returned (.int .i64 (exI n)) ∧ w = w' := by
  obtain ⟨m, hm⟩ : ∃ m, m = n.natAbs := ⟨_, rfl⟩
  have HS := Lib.hid (fun w => rmag_any n w l0 l1)
  have HU := Lib.hid (fun w => unit_any m w (by omega))
  have HE := exact_iff l0 l1
  rw [← hm] at HE HS
  have HM := Lib.hid (show m < 18446744073709551616 by omega)
  replace HE := Lib.hid HE
  clear l0 l1 hm
  go_enter Tryz.func14, Tryz.ntmps14
  go_wp2_with fail
  refine (HS.out _).mono ?_
  rintro _ w' ⟨rfl, rfl⟩
  go_wp2_with fail
  refine (HU.out _).mono ?_
  rintro _ w' ⟨⟨P, ⟨k, h1, h2, h3⟩, rfl⟩, rfl⟩
  obtain ⟨q, hq⟩ : ∃ q, q = m / P := ⟨_, rfl⟩
  obtain ⟨r, hr⟩ : ∃ r, r = m % P := ⟨_, rfl⟩
  obtain ⟨n1, n2, n3, n4, n5, n6, n7⟩ := near_plain HM.out h1 h2 h3 hq
  obtain ⟨-, -, e3⟩ := near_end (m := m) (k := k) h2 (by
    rcases h1 with h | h
    · exact .inl h
    · right
      by_cases hz : k = 0
      · subst hz; simp at h h2 ⊢; omega
      · have e : m / 2 ^ k = m / 2 ^ (k - 1) / 2 := by
          rw [Nat.div_div_eq_div_mul, ← Nat.pow_succ]; congr 2; omega
        omega)
  have d0 : (P : Int) ≠ 0 := by omega
  have d3 : (m : Int).tmod (P : Int) = (r : Int) := by rw [← Int.ofNat_tmod, ← hr]
  have d4 : (m : Int) % (P : Int) = (r : Int) := by rw [← Int.natCast_emod, ← hr]
  rw [← hr] at n5
  have hx : exI n = if r = 0 then 1 else 0 := by
    unfold exI
    by_cases c : r = 0
    · rw [if_pos c, if_pos (HE.out.2 (e3.2 (n5.1 c)))]
    · rw [if_neg c, if_neg (fun h => c (n5.2 (e3.1 (HE.out.1 h))))]
  have HX := Lib.hid hx
  clear hx n1 n2 n3 n4 n5 n6 n7 e3 h1 h2 h3 hq hr
  by_cases c : r = 0
  · subst c
    go_wp2
    go_ret
    exact ⟨ri (by rw [HX.out]; rfl), rfl⟩
  · have c' : ((r : Int) == 0) = false := by rw [beq_eq_false_iff_ne]; omega
    have C := Lib.hid c; clear c
    go_wp2
    go_ret
    exact ⟨ri (by rw [HX.out, if_neg C.out]), rfl⟩
end Fl
end Go.Proofs.YtmebmfgmopdieaaGreatDoor
