/- THE WALKS of layer 2's program: against, near, Down, Up, Exact, Floor, Ceil, Cmp. -/
import Derived.Test.YtmebmfgmopdieaaGreatDoorFlNext
import Derived.Test.YtmebmfgmopdieaaGreatDoorFlFlo
set_option linter.unusedSimpArgs false
set_option linter.unusedVariables false
set_option maxRecDepth 100000
namespace Go.Proofs.YtmebmfgmopdieaaGreatDoor
open Go.RowKit
namespace Fl

theorem integral_cases (name : String) (way : Ieee.Toward) : ∃ q : Question, (∀ x : Nat, Extern.MathFloor.toIntegral name way #[Value.float .f64 x] =
    (match Ieee.double.read x with
    | .nan s t =>
      if FloatKind.f64.format.quiet t = t then pure (Value.float .f64 x) else do
      let kept ← choose q
      pure (Value.float .f64 (if kept == 1 then x else FloatKind.f64.encode (.nan s (FloatKind.f64.format.quiet t))))
    | d => pure (Value.float .f64 (Ieee.double.write (d.integral way))))) ∧ q.forced = false := ⟨_, fun x => rfl, rfl⟩

theorem integral_pure (name : String) (way : Ieee.Toward) (up : Bool) {x : Nat} (hx : x < 18446744073709551616) (hn : nan x = false) (hway : way = if up then .up else .down) :
    Extern.MathFloor.toIntegral name way #[Value.float .f64 x] = pure (Value.float .f64 (intW up x)) := by
  have hn' : x % 9223372036854775808 ≤ 9218868437227405312 := by unfold nan at hn; simp at hn; exact hn
  obtain ⟨q, hq, _⟩ := integral_cases name way
  rw [hq]
  unfold intW
  by_cases h : x % 9223372036854775808 = 9218868437227405312
  · rw [if_pos h, read_inf hx h]
    show pure (Value.float .f64 (Ieee.double.word _ _)) = _
    rw [word_wd]
    have e3 : Ieee.double.infRung = 9218868437227405312 := by decide
    rw [e3, ← h, ← wd_of hx]
  · rw [if_neg h]
    have hi := integral_eq way (decide (9223372036854775808 ≤ x) ^^ up) hx (by omega) (by cases up <;> simp at hway ⊢ <;> simp [hway])
    obtain ⟨m, p, hread, _⟩ := read_num hx (show x % 9223372036854775808 < 9218868437227405312 by omega)
    rw [← hi, hread]

theorem run_floor (x : Nat) (w : World) (hx : x < 18446744073709551616) (hn : nan x = false) : (callFunc 61 #[.float .f64 x]).run Tryz.prog w = .ok (.value (.float .f64 (intW false x))) w := by
  have e : (callFunc 61 #[.float .f64 x]).run Tryz.prog w = (Extern.MathFloor.toIntegral "math.archFloor" .down #[.float .f64 x] >>= fun v => pure (.value v)).run Tryz.prog w := by kernel_rfl
  rw [e, integral_pure _ .down false hx hn rfl]
  rfl
theorem run_nan (way : Ieee.Toward) (name : String) (x : Nat) (w : World) (P : Program) (hx : x < 18446744073709551616) (hn : nan x = true) :
    ∃ y n, y < 18446744073709551616 ∧ nan y = true ∧ (Extern.MathFloor.toIntegral name way #[Value.float .f64 x] >>= fun v => pure (Next.value v)).run P w = .ok (.value (.float .f64 y)) (w.drewN n) := by
  obtain ⟨s, t, hread⟩ := read_nan (b := x) (by unfold nan at hn; simpa using hn)
  obtain ⟨q, hq, hf⟩ := integral_cases name way
  rw [hq, hread]
  have hnan : ∀ s t, nan (FloatKind.f64.encode (.nan s (FloatKind.f64.format.quiet t))) = true ∧ FloatKind.f64.encode (.nan s (FloatKind.f64.format.quiet t)) < 18446744073709551616 := by
    intro s t
    refine ⟨?_, ?_⟩
    · show nan (Ieee.double.word s (Ieee.double.infRung + Ieee.double.quiet t % Ieee.double.binade)) = true
      have e2 : Ieee.double.binade = 4503599627370496 := by decide
      have e3 : Ieee.double.infRung = 9218868437227405312 := by decide
      have e5 : Ieee.double.fractionBits = 52 := by decide
      rw [word_wd, e2, e3]
      unfold Ieee.Format.quiet
      rw [e5]
      have hbit : ((t ||| 2 ^ (52 - 1)) % 4503599627370496) ≠ 0 := by
        intro hz
        have h2 : ((t ||| 2 ^ 51) % 2 ^ 52).testBit 51 = true := by
          rw [Nat.testBit_mod_two_pow, Nat.testBit_or, Nat.testBit_two_pow_self, Bool.or_true, Bool.and_true]; decide
        rw [show (2 : Nat) ^ 52 = 4503599627370496 from by decide, show (51 : Nat) = 52 - 1 from rfl, hz] at h2
        exact absurd h2 (by decide)
      have hlt : (t ||| 2 ^ (52 - 1)) % 4503599627370496 < 4503599627370496 := Nat.mod_lt _ (by omega)
      unfold nan wd
      simp only [decide_eq_true_eq]
      split <;> omega
    · have := FloatKind.f64.format.write_lt (.nan s (FloatKind.f64.format.quiet t))
      exact this
  by_cases c : FloatKind.f64.format.quiet t = t
  · refine ⟨x, 0, hx, hn, ?_⟩
    simp only [c, if_true]
    rfl
  · by_cases k : q.cut (w.tape w.drawn q) = 1
    · refine ⟨x, 1, hx, hn, ?_⟩
      simp only [c, if_false]
      simp [choose, Sem.run, hf, k, World.drewN]
    · refine ⟨_, 1, (hnan s t).2, (hnan s t).1, ?_⟩
      simp only [c, if_false]
      simp [choose, Sem.run, hf, k, World.drewN]

theorem run_floor_nan (x : Nat) (w : World) (hx : x < 18446744073709551616) (hn : nan x = true) :
    ∃ y n, y < 18446744073709551616 ∧ nan y = true ∧ (callFunc 61 #[.float .f64 x]).run Tryz.prog w = .ok (.value (.float .f64 y)) (w.drewN n) := by
  have e : (callFunc 61 #[.float .f64 x]).run Tryz.prog w = (Extern.MathFloor.toIntegral "math.archFloor" .down #[.float .f64 x] >>= fun v => pure (.value v)).run Tryz.prog w := by kernel_rfl
  rw [e]
  exact run_nan _ _ x w _ hx hn
theorem mfloor_num (x : Nat) (w : World) (hx : x < 18446744073709551616) (hn : nan x = false) :
    Calls Tryz.prog 39 #[.float .f64 x] w fun e w' => e = .returned (.float .f64 (intW false x)) ∧ w = w' := by
  have h := run_floor x w hx hn
  go_enter Tryz.func39, Tryz.ntmps39
  go_wp2
  go_ret
  exact ⟨rfl, rfl⟩
def NanAlike (w : World) (e : Ending) (w' : World) : Prop := ∃ y n, y < 18446744073709551616 ∧ nan y = true ∧ e = .returned (.float .f64 y) ∧ w' = w.drewN n
theorem mfloor_nan (x : Nat) (w : World) (hx : x < 18446744073709551616) (hn : nan x = true) :
    Calls Tryz.prog 39 #[.float .f64 x] w (NanAlike w) := by
  obtain ⟨y, n, h1, h2, h⟩ := run_floor_nan x w hx hn
  have H1 := Lib.hid h1; have H2 := Lib.hid h2; clear h1 h2 hn
  go_enter Tryz.func39, Tryz.ntmps39
  go_wp2
  go_ret
  exact ⟨y, n, H1.out, H2.out, rfl, rfl⟩
end Fl
end Go.Proofs.YtmebmfgmopdieaaGreatDoor
