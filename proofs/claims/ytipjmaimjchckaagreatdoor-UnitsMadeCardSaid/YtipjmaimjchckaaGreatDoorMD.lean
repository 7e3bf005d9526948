/- CODE: what is left of a heap as it was; code is right. -/
import Derived.Test.YtipjmaimjchckaaGreatDoorMC
import Derived.LoopN
import Derived.Scope
import Derived.Recover
import Derived.ChangeArms
import Derived.OpenShut
import Derived.DataReads
import GoSem.ClaimJoined
import Derived.WalkSpells
/-! CODE: what is left of a heap as it was; code is right. -/
set_option linter.unusedSimpArgs false
set_option linter.unusedVariables false
set_option linter.unusedSectionVars false
namespace Go.Proofs.YtipjmaimjchckaaGreatDoor
open Go.RowKit
namespace Ev

theorem kSeq_some {k : St → CR} {r : CR} {e : Ex} {st : St} (h : kSeq k r = some (e, st)) : (∃ st1, r = some (.normal, st1) ∧ k st1 = some (e, st)) ∨ (r = some (e, st) ∧ e ≠ .normal) := by
  obtain ⟨⟨e1, st1⟩, rfl, h2⟩ := ob_some.1 h
  cases e1 with
  | normal => exact .inl ⟨st1, rfl, h2⟩
  | exit i => cases h2; exact .inr ⟨rfl, fun h => by cases h⟩
  | ret => cases h2; exact .inr ⟨rfl, fun h => by cases h⟩
theorem kBlock_some {id : Nat} {r : CR} {e : Ex} {st : St} (h : kBlock id r = some (e, st)) : ∃ e1, r = some (e1, st) ∧ ((e1 = .normal ∧ e = .normal) ∨ (e1 = .exit id ∧ e = .normal) ∨ (∃ i, i ≠ id ∧ e1 = .exit i ∧ e = .exit i) ∨ (e1 = .ret ∧ e = .ret)) := by
  obtain ⟨⟨e1, st1⟩, rfl, h2⟩ := ob_some.1 h
  cases e1 with
  | normal => cases h2; exact ⟨_, rfl, .inl ⟨rfl, rfl⟩⟩
  | exit i =>
    cases hb : Nat.beq i id with
    | true =>
      have h3 : Bool.rec (motive := fun _ => CR) (some (.exit i, st1)) (some (.normal, st1)) (Nat.beq i id) = some (e, st) := h2
      rw [hb] at h3; cases h3
      have := beq_iff.1 hb; subst this
      exact ⟨_, rfl, .inr (.inl ⟨rfl, rfl⟩)⟩
    | false =>
      have h3 : Bool.rec (motive := fun _ => CR) (some (.exit i, st1)) (some (.normal, st1)) (Nat.beq i id) = some (e, st) := h2
      rw [hb] at h3; cases h3
      exact ⟨_, rfl, .inr (.inr (.inl ⟨i, fun h => (by rw [beq_iff.2 h] at hb; cases hb), rfl, rfl⟩))⟩
  | ret => cases h2; exact ⟨_, rfl, .inr (.inr (.inr ⟨rfl, rfl⟩))⟩

section
variable {tb : Tab} {call : CallT} {cx : Cx} {N : Nat}
theorem seqOps_fr (hf : CallFr call) {all : List Oper} (l : List Oper) : ∀ (t : TE) (s : Hs) (dl : DL) (st : St), seqOps tb call cx N all l t s dl = some st → Fq cx.fl cx.hid s st.s := by
  induction l with
  | nil => intro t s dl st h; cases h; exact Fq.refl _ _ _
  | cons o l ih =>
    intro t s dl st h
    obtain ⟨b, h1, h2⟩ := ob_some.1 h
    cases b with
    | false => obtain ⟨t1, h3, h4⟩ := ob_some.1 h2; exact ih _ _ _ _ h4
    | true =>
      obtain ⟨r, h3, h4⟩ := ob_some.1 h2
      cases r with
      | ok v s1 =>
        obtain ⟨t1, h5, h6⟩ := ob_some.1 h4
        exact (op_fr hf o.op v s1 h3).trans (ih _ _ _ _ h6)
      | dfr f xs => obtain ⟨t1, h5, h6⟩ := ob_some.1 h4; exact ih _ _ _ _ h6
theorem region_fr (hf : CallFr call) {os : Array Oper} {dr : Bool} {st st' : St} (h : region tb call cx N os dr st = some st') : Fq cx.fl cx.hid st.s st'.s := by
  cases dr with
  | false => exact seqOps_fr hf _ _ _ _ _ h
  | true =>
    obtain ⟨h1, h2⟩ := gd_some.1 h
    obtain ⟨d, h3, h4⟩ := ob_some.1 h2
    cases h4
    obtain ⟨D, M, k1, k2, k3, k4⟩ := drawGo_run _ _ _ _ _ _ h3
    have key : ∀ k, k ≤ os.toList.length → Fq cx.fl cx.hid (D 0).s (D k).s := by
      intro k
      induction k with
      | zero => intro _; exact Fq.refl _ _ _
      | succ k ih =>
        intro hk
        refine (ih (by omega)).trans ?_
        have h5 : os.toList[k]? = some os.toList[k] := List.getElem?_eq_getElem (by omega)
        have h6 : k < (ancL os.toList []).length := by omega
        have h7 := k4 k _ _ h5 (List.getElem?_eq_getElem h6)
        rw [Nat.zero_add] at h7
        rcases h7.run with ⟨_, _, h8, _⟩ | ⟨_, h8, _⟩
        · rw [h8]; exact Fq.refl _ _ _
        · exact (op_fr (cx := ⟨cx.g, cx.l, (M k).fl, (M k).hid⟩) hf _ _ _ h8).mono h7.seen.mono
    have := key _ (Nat.le_refl _)
    rw [Nat.zero_add] at k2
    rw [k1, k2] at this
    exact this

theorem code_fr (hf : CallFr call) (f : Nat) : ∀ (c : Code) (st : St) (e : Ex) (st' : St), code tb call cx N f c st = some (e, st') → Fq cx.fl cx.hid st.s st'.s := by
  induction f with
  | zero => intro c st e st' h; cases h
  | succ f ih =>
    intro c st e st' h
    have seq : ∀ {x y : Code}, kSeq (code tb call cx N f y) (code tb call cx N f x st) = some (e, st') → Fq cx.fl cx.hid st.s st'.s := by
      intro x y h
      rcases kSeq_some h with ⟨st1, h1, h2⟩ | ⟨h1, _⟩
      · exact (ih _ _ _ _ h1).trans (ih _ _ _ _ h2)
      · exact ih _ _ _ _ h1
    cases c with
    | skip => cases h; exact Fq.refl _ _ _
    | region id os d => obtain ⟨t, h1, h2⟩ := ob_some.1 h; cases h2; exact region_fr hf h1
    | seq a b => exact seq h
    | cond c a b =>
      obtain ⟨x, _, h2⟩ := ob_some.1 h
      obtain ⟨b, _, h3⟩ := asBool_some h2
      exact ih _ _ _ _ h3
    | block id c => obtain ⟨e1, h1, _⟩ := kBlock_some h; exact ih _ _ _ _ h1
    | loop c => exact seq h
    | exit id => cases h; exact Fq.refl _ _ _
    | scope c => exact ih _ _ _ _ h
    | label l => cases h; exact Fq.refl _ _ _
    | ret => cases h; exact Fq.refl _ _ _
    | _ => cases h
end

/-- How code is left, in the model's words. -/
def exOf : Ex → Exit
  | .normal => .normal
  | .exit i => .exit i
  | .ret => .ret

section
variable [Gh] {w0 : World} {tb : Tab} {call : CallT} {cx : Cx} {N : Nat}
/-- What holds behind code. -/
def Post (w0 : World) (cx : Cx) (N : Nat) (st st' : St) (ρ : Env) (w : World) (K : Act → World → Prop) : Prop :=
  ∀ ρ' w' a', Stp w0 ρ ρ' cx st.s st'.s w w' → SatT N ρ' st'.s.n a' st'.t → DefsOk ρ' st'.s.n st'.d a'.defers → K a' w'

theorem code_sound (hT : TabOk tb w0) (hc : CallOk tb w0 call) (hf : CallFr call) (hg : cx.g = tb.g) (hl : cx.l = tb.l) (f : Nat) :
    (∀ (c : Code) (st : St) (e : Ex) (st' : St), code tb call cx N f c st = some (e, st') → ∀ (ρ : Env) (w : World) (a : Act) (Q : Exit → Act → World → Prop),
      SatH w0 ρ cx st.s w → SatT N ρ st.s.n a st.t → DefsOk ρ st.s.n st.d a.defers → Post w0 cx N st st' ρ w (Q (exOf e)) → c.wp tb.p Q a w) ∧
    (∀ (c : Code) (st : St) (e : Ex) (st' : St), code tb call cx N f (.loop c) st = some (e, st') → ∀ (ρ : Env) (w : World) (a : Act) (Q : Exit → Act → World → Prop),
      SatH w0 ρ cx st.s w → SatT N ρ st.s.n a st.t → DefsOk ρ st.s.n st.d a.defers → Post w0 cx N st st' ρ w (Q (exOf e)) → Code.rounds tb.p c Q f a w) := by
  induction f with
  | zero => exact ⟨fun c st e st' h => (by cases h), fun c st e st' h => (by cases h)⟩
  | succ f ih =>
    obtain ⟨ih1, ih2⟩ := ih
    have loops : ∀ (c : Code) (st : St) (e : Ex) (st' : St), code tb call cx N (f + 1) (.loop c) st = some (e, st') → ∀ (ρ : Env) (w : World) (a : Act) (Q : Exit → Act → World → Prop),
        SatH w0 ρ cx st.s w → SatT N ρ st.s.n a st.t → DefsOk ρ st.s.n st.d a.defers → Post w0 cx N st st' ρ w (Q (exOf e)) → Code.rounds tb.p c Q (f + 1) a w := by
      intro c st e st' h ρ w a Q hs ht hd hq
      rw [rounds_succ]
      rcases kSeq_some (show kSeq (code tb call cx N f (.loop c)) (code tb call cx N f c st) = some (e, st') from h) with ⟨st1, h1, h2⟩ | ⟨h1, hne⟩
      · refine ih1 _ _ _ _ h1 ρ w a _ hs ht hd (fun ρ1 w1 a1 s1 t1 d1 => ?_)
        exact ih2 _ _ _ _ h2 ρ1 w1 a1 Q s1.sat t1 d1 (fun ρ2 w2 a2 s2 t2 d2 => hq ρ2 w2 a2 (s1.trans s2) t2 d2)
      · refine ih1 _ _ _ _ h1 ρ w a _ hs ht hd (fun ρ1 w1 a1 s1 t1 d1 => ?_)
        have := hq ρ1 w1 a1 s1 t1 d1
        cases e with
        | normal => exact absurd rfl hne
        | exit i => exact this
        | ret => exact this
    refine ⟨fun c st e st' h ρ w a Q hs ht hd hq => ?_, loops⟩
    cases c with
    | skip => cases h; exact wp_skip (hq ρ w a (Stp.refl hs) ht hd)
    | label l => cases h; exact wp_label (hq ρ w a (Stp.refl hs) ht hd)
    | exit id => cases h; exact wp_exit (hq ρ w a (Stp.refl hs) ht hd)
    | ret => cases h; exact wp_ret (hq ρ w a (Stp.refl hs) ht hd)
    | region id os dr =>
      obtain ⟨t, h1, h2⟩ := ob_some.1 h
      cases h2
      exact region_sound hT hc hf hg hl h1 hs ht hd hq
    | seq x y =>
      refine wp_seq ?_
      rcases kSeq_some (show kSeq (code tb call cx N f y) (code tb call cx N f x st) = some (e, st') from h) with ⟨st1, h1, h2⟩ | ⟨h1, hne⟩
      · refine ih1 _ _ _ _ h1 ρ w a _ hs ht hd (fun ρ1 w1 a1 s1 t1 d1 => ?_)
        exact ih1 _ _ _ _ h2 ρ1 w1 a1 Q s1.sat t1 d1 (fun ρ2 w2 a2 s2 t2 d2 => hq ρ2 w2 a2 (s1.trans s2) t2 d2)
      · refine ih1 _ _ _ _ h1 ρ w a _ hs ht hd (fun ρ1 w1 a1 s1 t1 d1 => ?_)
        have := hq ρ1 w1 a1 s1 t1 d1
        cases e with
        | normal => exact absurd rfl hne
        | exit i => exact this
        | ret => exact this
    | cond c x y =>
      obtain ⟨v, h1, h2⟩ := ob_some.1 h
      obtain ⟨b, rfl, h3⟩ := asBool_some h2
      have hv := (ht.vals hs hg (.move c) c (by simp [Op.operands]) _ h1).2
      refine wp_cond (t := b) hv ?_
      cases b with
      | true => exact ih1 _ _ _ _ h3 ρ w a Q hs ht hd hq
      | false => exact ih1 _ _ _ _ h3 ρ w a Q hs ht hd hq
    | block id c =>
      obtain ⟨e1, h1, h2⟩ := kBlock_some h
      refine wp_block (ih1 _ _ _ _ h1 ρ w a _ hs ht hd (fun ρ1 w1 a1 s1 t1 d1 => ?_))
      have := hq ρ1 w1 a1 s1 t1 d1
      rcases h2 with ⟨rfl, rfl⟩ | ⟨rfl, rfl⟩ | ⟨i, hi, rfl, rfl⟩ | ⟨rfl, rfl⟩
      · exact this
      · show Exit.inBlock id Q (.exit id) a1 w1
        simp only [Exit.inBlock, if_true]; exact this
      · show Exit.inBlock id Q (.exit i) a1 w1
        simp only [Exit.inBlock, hi, if_false]; exact this
      · exact this
    | loop c => exact wp_loop_rounds (f + 1) (loops c st e st' h ρ w a Q hs ht hd hq)
    | scope c =>
      refine wp_scope_straight (ih1 _ _ _ _ h ρ w a _ hs ht hd (fun ρ1 w1 a1 s1 t1 d1 => ?_))
      have := hq ρ1 w1 a1 s1 t1 d1
      cases e <;> exact this
    | _ => cases h
end
end Ev
end Go.Proofs.YtipjmaimjchckaaGreatDoor

/-! CALLS ARE RIGHT: arguments, results, deferred calls. -/
set_option linter.unusedSimpArgs false
set_option linter.unusedVariables false
set_option linter.unusedSectionVars false
namespace Go.Proofs.YtipjmaimjchckaaGreatDoor
open Go.RowKit
namespace Ev

theorem run_mapMV {α : Type} {P : Program} {w : World} {ρ : Env} {f : α → Sem Value} {g : α → Option AV} : ∀ (l : List α) (r : List AV), mapO g l = some r →
    (∀ x ∈ l, ∀ v, g x = some v → (f x).run P w = .ok (den ρ v) w) → (l.mapM f).run P w = .ok (r.map (den ρ)) w := by
  intro l
  induction l with
  | nil => intro r h _; cases h; simp
  | cons x l ih =>
    intro r h hf
    obtain ⟨v, h1, h2⟩ := ob_some.1 (show ob (g x) (fun v => ob (mapO g l) (fun vs => some (v :: vs))) = some r from h)
    obtain ⟨vs, h3, h4⟩ := ob_some.1 h2
    cases h4
    have e1 := hf x List.mem_cons_self v h1
    have e2 := ih vs h3 (fun y hy => hf y (List.mem_cons_of_mem _ hy))
    simp only [List.mapM_cons, Sem.run_bind, e1, Result.andThen_ok, e2, Sem.run_pure, List.map_cons]

theorem argsT_get : ∀ (l : List AV) (n : Nat) (t : TE) (i : Nat), getA (argsT n l t) i = if n ≤ i ∧ i < n + l.length then l[i - n]? else getA t i := by
  intro l
  induction l with
  | nil => intro n t i; rw [if_neg (fun h => by have := h.1; have := h.2; simp at this; omega)]; rfl
  | cons v l ih =>
    intro n t i
    show getA (argsT (n + 1) l (setA t n v)) i = _
    rw [ih]
    by_cases h1 : n = i
    · subst h1
      rw [if_neg (by omega), getA_set, if_pos (by simp)]; simp
    · rw [getA_set_ne _ _ h1]
      by_cases h2 : n + 1 ≤ i ∧ i < n + 1 + l.length
      · rw [if_pos h2, if_pos (by simp; omega)]
        rw [show i - n = (i - (n + 1)) + 1 by omega]; rfl
      · rw [if_neg h2, if_neg (by simp; omega)]

section
variable [Gh] {w0 : World} {tb : Tab} {call : CallT} {cx : Cx} {N : Nat} {ρ : Env} {s : Hs} {w : World} {a : Act} {t : TE}

theorem args_sat {n : Nat} {xs : List AV} (h : xs.length ≤ N) (hx : ScL n xs) :
    SatT N ρ n ⟨(xs.map (den ρ)).toArray ++ Array.replicate (N - (xs.map (den ρ)).toArray.size) undef, []⟩ (argsT 0 xs nilA) := by
  refine ⟨by simp; omega, fun i v hv => ?_⟩
  rw [argsT_get, getA_nil] at hv
  split at hv
  · rename_i hi
    have hi : i < xs.length := by omega
    rw [Nat.sub_zero] at hv
    refine ⟨(scL_iff _ _).1 hx v (List.mem_of_getElem? hv), by omega, ?_⟩
    have h2 : i < (xs.map (den ρ)).toArray.size := by simp; exact hi
    rw [Array.getElem?_append_left h2, List.getElem?_toArray, List.getElem?_map, hv]; rfl
  · cases hv

/-- How one result is read. -/
def resM (tmps : Array Value) : ResultVar → Sem Value
  | .tmp t => pure (tmps.getD t undef)
  | .cell b ty => do loadVar ty (← asAddr (tmps.getD b undef))
omit [Gh] in
theorem results_eq (fn : Func) (tmps : Array Value) : results fn tmps = (do let vs ← fn.results.mapM (resM tmps); pure (if h : vs.size = 1 then vs[0] else .tuple vs)) := rfl
theorem resA_sound (hT : TabOk tb w0) (hs : SatH w0 ρ cx s w) (ht : SatT N ρ s.n a t) {r : ResultVar} {v : AV} (h : resA tb t cx s r = some v) :
    (resM a.tmps r).run tb.p w = .ok (den ρ v) w ∧ Sc s.n v := by
  cases r with
  | tmp k =>
    obtain ⟨h1, h2, h3⟩ := ht.val k v h
    refine ⟨?_, h1⟩
    simp only [resM, Sem.run_pure, Array.getD_eq_getD_getElem?, h3, Option.getD_some]
  | cell b ty =>
    obtain ⟨i, h1, h2⟩ := ob_some.1 h
    obtain ⟨y, h3, h4⟩ := ob_some.1 h2
    obtain ⟨c, off, rfl, h5⟩ := asPtr_some h4
    obtain ⟨o, h6, h7⟩ := ob_some.1 h5
    obtain ⟨cells, ho, h8⟩ := rowC_some h7
    obtain ⟨_, _, h9⟩ := ht.val b _ h3
    obtain ⟨h11, h12⟩ := run_loadVar (hT.ty ty i h1) (hs.obj c o h6) ho h8
    refine ⟨?_, h12⟩
    simp only [resM, Array.getD_eq_getD_getElem?, h9, Option.getD_some, den, asAddr, Sem.run_bind, Sem.run_pure, Result.andThen_ok, h11]

theorem single_den (l : List AV) : den ρ (single l) = (if h : (l.map (den ρ)).toArray.size = 1 then (l.map (den ρ)).toArray[0] else .tuple (l.map (den ρ)).toArray) := by
  cases l with
  | nil => simp [single, den, denL_eq]
  | cons x l =>
    cases l with
    | nil => rfl
    | cons y l =>
      rw [dif_neg (by simp)]
      show den ρ (.tup (x :: y :: l)) = _
      rw [den, denL_eq]
theorem single_sc {n : Nat} {l : List AV} (h : ScL n l) : Sc n (single l) := by
  cases l with
  | nil => exact trivial
  | cons x l =>
    cases l with
    | nil => exact h.1
    | cons y l => exact h

theorem results_sound (hT : TabOk tb w0) (hs : SatH w0 ρ cx s w) (ht : SatT N ρ s.n a t) {fn : Func} {v : AV} (h : resultsA tb fn t cx s = some v) :
    (results fn a.tmps).run tb.p w = .ok (den ρ v) w ∧ Sc s.n v := by
  obtain ⟨l, h1, h2⟩ := ob_some.1 h
  cases h2
  refine ⟨?_, single_sc ((scL_iff _ _).2 (mapO_all h1 (fun r _ v hv => (resA_sound hT hs ht hv).2)))⟩
  have key := run_mapMV (P := tb.p) (w := w) (ρ := ρ) (f := resM a.tmps) _ _ h1
    (fun r _ v hv => (resA_sound hT hs ht hv).1)
  rw [results_eq]
  simp only [Sem.run_bind, Array.mapM_eq_mapM_toList, Sem.run_map, key, Result.andThen_ok, Sem.run_pure, single_den]
end
end Ev
end Go.Proofs.YtipjmaimjchckaaGreatDoor

/-! CALLS ARE RIGHT. -/
set_option linter.unusedSimpArgs false
set_option linter.unusedVariables false
set_option linter.unusedSectionVars false
namespace Go.Proofs.YtipjmaimjchckaaGreatDoor
open Go.RowKit
namespace Ev

theorem recDst_some {c : Code} {d : Option Tmp} (h : recDst c = some d) : ∃ id os args ts ty pos af, c = .region id os false ∧ os.toList = [⟨d, .call ⟨.builtin .recover, args, ts⟩, ty, pos, af, none⟩] := by
  unfold recDst at h
  split at h
  · rename_i i os
    split at h
    · rename_i hos; cases h; exact ⟨i, os, _, _, _, _, _, rfl, hos⟩
    · cases h
  · cases h

theorem deferA_some {tb : Tab} {call : CallT} {cx : Cx} {f : FuncId} {xs : List AV} {s s' : Hs} (h : deferA tb call cx f xs s = some s') :
    ∃ fn x y e st v, tb.fn.get f = some fn ∧ fn.body = some (.seq x y) ∧ xs.length ≤ fn.ntmps ∧ kSeq (code tb call cx fn.ntmps fuel y) (codeD tb call cx fn.ntmps fuel x ⟨argsT 0 xs nilA, s, []⟩) = some (e, st) ∧
      noEx e = true ∧ st.d = [] ∧ resultsA tb fn st.t cx st.s = some v ∧ s' = st.s := by
  obtain ⟨fn, h1, h2⟩ := ob_some.1 h
  obtain ⟨c, h3, h4⟩ := ob_some.1 h2
  obtain ⟨h5, h6⟩ := gd_some.1 h4
  obtain ⟨⟨e, st⟩, h7, h8⟩ := ob_some.1 h6
  obtain ⟨h9, h10⟩ := gd_some.1 h8
  obtain ⟨h11, h12⟩ := gd_some.1 h10
  obtain ⟨v, h13, h14⟩ := ob_some.1 h12
  cases h14
  cases c with
  | seq x y =>
    refine ⟨fn, x, y, e, st, v, h1, h3, ?_, h7, h9, ?_, h13, rfl⟩
    · have := ble_iff.1 h5; rwa [len_eq] at this
    · change isNil st.d = true at h11
      cases hd : st.d with
      | nil => rfl
      | cons d dl => rw [hd] at h11; cases h11
  | _ => cases h7

section
variable {tb : Tab} {call : CallT} {cx : Cx} {N : Nat}
theorem codeD_fr (hf : CallFr call) {f : Nat} {c : Code} {st st' : St} {e : Ex} (h : codeD tb call cx N f c st = some (e, st')) : Fq cx.fl cx.hid st.s st'.s := by
  unfold codeD at h
  cases hr : recDst c with
  | none => rw [hr] at h; exact code_fr hf _ _ _ _ _ h
  | some d =>
    rw [hr] at h
    obtain ⟨t, _, h2⟩ := ob_some.1 h
    cases h2; exact Fq.refl _ _ _
theorem deferA_fr (hf : CallFr call) {f : FuncId} {xs : List AV} {s s' : Hs} (h : deferA tb call cx f xs s = some s') : Fq cx.fl cx.hid s s' := by
  obtain ⟨fn, x, y, e, st, v, _, _, _, h1, _, _, _, rfl⟩ := deferA_some h
  rcases kSeq_some h1 with ⟨st1, h2, h3⟩ | ⟨h2, _⟩
  · exact (codeD_fr hf h2).trans (code_fr hf _ _ _ _ _ h3)
  · exact codeD_fr hf h2
theorem defersA_fr (hf : CallFr call) : ∀ (dl : DL) (s s' : Hs), defersA tb call cx dl s = some s' → Fq cx.fl cx.hid s s' := by
  intro dl
  induction dl with
  | nil => intro s s' h; cases h; exact Fq.refl _ _ _
  | cons d dl ih =>
    intro s s' h
    obtain ⟨s1, h1, h2⟩ := ob_some.1 h
    exact (deferA_fr hf h1).trans (ih _ _ h2)

theorem callA_some {n : Nat} {fl : Nat} {hid : Hid} {f : FuncId} {xs : List AV} {s s' : Hs} {v : AV} (h : callA tb (n + 1) fl hid f xs s = some (v, s')) :
    ∃ fn c e st, tb.fn.get f = some fn ∧ fn.body = some c ∧ xs.length ≤ fn.ntmps ∧ code tb (callA tb n) ⟨tb.g, tb.l, fl, hid⟩ fn.ntmps fuel c ⟨argsT 0 xs nilA, s, []⟩ = some (e, st) ∧ noEx e = true ∧
      defersA tb (callA tb n) ⟨tb.g, tb.l, fl, hid⟩ st.d st.s = some s' ∧ resultsA tb fn st.t ⟨tb.g, tb.l, fl, hid⟩ s' = some v := by
  obtain ⟨fn, h1, h2⟩ := ob_some.1 (show ob (tb.fn.get f) (fun fn => ob fn.body (fun c => ob (bodyA tb (callA tb n) ⟨tb.g, tb.l, fl, hid⟩ fn c xs s) (fun st => ob (defersA tb (callA tb n) ⟨tb.g, tb.l, fl, hid⟩ st.d st.s) (fun s' => ob (resultsA tb fn st.t ⟨tb.g, tb.l, fl, hid⟩ s') (fun v => some (v, s')))))) = some (v, s') from h)
  obtain ⟨c, h3, h4⟩ := ob_some.1 h2
  obtain ⟨st, h5, h6⟩ := ob_some.1 h4
  obtain ⟨s1, h7, h8⟩ := ob_some.1 h6
  obtain ⟨v1, h9, h10⟩ := ob_some.1 h8
  cases h10
  obtain ⟨h11, h12⟩ := gd_some.1 h5
  obtain ⟨⟨e, st1⟩, h13, h14⟩ := ob_some.1 h12
  obtain ⟨h15, h16⟩ := gd_some.1 h14
  cases h16
  refine ⟨fn, c, e, st1, h1, h3, ?_, h13, h15, h7, h9⟩
  have := ble_iff.1 h11; rwa [len_eq] at this

theorem callA_fr (n : Nat) : CallFr (callA tb n) := by
  induction n with
  | zero => intro fl hid f xs s v s' h; cases h
  | succ n ih =>
    intro fl hid f xs s v s' h
    obtain ⟨fn, c, e, st, h1, h2, h3, h4, h5, h6, h7⟩ := callA_some h
    exact (code_fr (cx := ⟨tb.g, tb.l, fl, hid⟩) ih _ _ _ _ _ h4).trans (defersA_fr (cx := ⟨tb.g, tb.l, fl, hid⟩) ih _ _ _ h6)
end

section
variable [Gh] {w0 : World} {tb : Tab} {call : CallT} {cx : Cx} {N : Nat} {ρ : Env} {s s' : Hs} {w : World}

theorem exOf_body {e : Ex} (h : noEx e = true) : exOf e = .normal ∨ exOf e = .ret := by
  cases e with
  | normal => exact .inl rfl
  | exit i => cases h
  | ret => exact .inr rfl

theorem defer_sound (hT : TabOk tb w0) (hc : CallOk tb w0 call) (hf : CallFr call) (hg : cx.g = tb.g) (hl : cx.l = tb.l) {f : FuncId} {xs : List AV} (h : deferA tb call cx f xs s = some s')
    (hs : SatH w0 ρ cx s w) (hx : ScL s.n xs) {R : Ending → FrameMode → World → Prop} (hR : ∀ ρ' w' v, Stp w0 ρ ρ' cx s s' w w' → R (.returned v) .returning w') :
    CallsD tb.p f (xs.map (den ρ)).toArray .returning w R := by
  obtain ⟨fn, x, y, e, st, v, h1, h2, h3, h4, h5, h6, h7, rfl⟩ := deferA_some h
  refine callsD_of_wpS (hT.fn f fn h1).1 h2 (fun c₀ cs hm => ?_)
  have hsat := args_sat (N := fn.ntmps) (ρ := ρ) h3 hx
  have hd0 : DefsOk ρ s.n [] ([] : List Deferred) := trivial
  have hc0 : ({ c₀ with mode := .returning } : Frame) = c₀ := by rw [← hm]
  -- what holds at the end
  have fin : ∀ ρ' w' a', Stp w0 ρ ρ' cx s st.s w w' → SatT fn.ntmps ρ' st.s.n a' st.t → DefsOk ρ' st.s.n st.d a'.defers → bodyPostS tb.p fn c₀ cs R (exOf e) a' (c₀ :: cs) w' := by
    intro ρ' w' a' k1 k2 k3
    have hde : a'.defers = [] := by
      rw [h6] at k3
      cases hd : a'.defers with
      | nil => rfl
      | cons d ds => rw [hd] at k3; exact k3.elim
    have hr := (results_sound hT k1.sat k2 h7).1
    rcases exOf_body h5 with he | he <;> rw [he] <;> exact ⟨hde, .returning, by rw [hc0], _, hr, hR ρ' w' _ k1⟩
  refine wpS_seq ?_
  unfold codeD at h4
  cases hr : recDst x with
  | none =>
    rw [hr] at h4
    rcases kSeq_some h4 with ⟨st1, h8, h9⟩ | ⟨h8, hne⟩
    · refine wpS_of_wp ((code_sound hT hc hf hg hl _).1 _ _ _ _ h8 ρ w _ _ hs hsat hd0 (fun ρ1 w1 a1 s1 t1 d1 => ?_))
      refine wpS_of_wp ((code_sound hT hc hf hg hl _).1 _ _ _ _ h9 ρ1 w1 a1 _ s1.sat t1 d1 (fun ρ2 w2 a2 s2 t2 d2 => ?_))
      exact fin ρ2 w2 a2 (s1.trans s2) t2 d2
    · refine wpS_of_wp ((code_sound hT hc hf hg hl _).1 _ _ _ _ h8 ρ w _ _ hs hsat hd0 (fun ρ1 w1 a1 s1 t1 d1 => ?_))
      have := fin ρ1 w1 a1 s1 t1 d1
      cases e with
      | normal => exact absurd rfl hne
      | exit i => exact this
      | ret => exact this
  | some d =>
    rw [hr] at h4
    obtain ⟨id, os, args, ts, ty, pos, af, rfl, hos⟩ := recDst_some hr
    have ho0 : os[0]? = some ⟨d, .call ⟨.builtin .recover, args, ts⟩, ty, pos, af, none⟩ := by rw [← Array.getElem?_toList, hos]; rfl
    have hsz : os.size = 1 := by rw [← Array.length_toList, hos]; rfl
    have h4' : kSeq (code tb call cx fn.ntmps fuel y) (ob (put fn.ntmps (argsT 0 xs nilA) d (.v .nilIface)) (fun t => some (.normal, ⟨t, s, []⟩))) = some (e, st) := h4
    rcases kSeq_some h4' with ⟨st1, h8, h9⟩ | ⟨h8, hne⟩
    · obtain ⟨t, h10, h11⟩ := ob_some.1 h8
      cases h11
      refine wpS_region ?_
      rw [hsz]
      show wpOpsS tb.p os _ [0] _ _ _
      unfold wpOpsS
      rw [ho0]
      have hrun : ∀ (g : Operand → Value), (execOp g ⟨d, .call ⟨.builtin .recover, args, ts⟩, ty, pos, af, none⟩).run tb.p w = .ok .recover w := by
        intro g
        simp only [execOp, resolve, Sem.run_bind, Sem.run_pure, Result.andThen_ok, invoke, builtin]
      have hrec : recoverD (c₀ :: cs) = none := by
        simp only [recoverD, hm]
      simp only [Region.wanted, if_true, hrun, hrec]
      unfold wpOpsS
      refine wpS_of_wp ((code_sound hT hc hf hg hl _).1 _ _ _ _ h9 ρ w _ _ hs (hsat.put (v := .v .nilIface) h10 trivial) ?_ (fun ρ2 w2 a2 s2 t2 d2 => ?_))
      · rw [put_defers]; exact hd0
      · exact fin ρ2 w2 a2 s2 t2 d2
    · obtain ⟨t, h10, h11⟩ := ob_some.1 h8
      cases h11; exact absurd rfl hne

theorem defers_sound (hT : TabOk tb w0) (hc : CallOk tb w0 call) (hf : CallFr call) (hg : cx.g = tb.g) (hl : cx.l = tb.l) {fn : Func} {tmps : Array Value} {R : Ending → World → Prop} {s' : Hs} : ∀ (dl : DL) (s : Hs),
    defersA tb call cx dl s = some s' → ∀ (ρ : Env) (w : World) (ds : List Deferred), SatH w0 ρ cx s w → DefsOk ρ s.n dl ds →
      (∀ ρ' w', Stp w0 ρ ρ' cx s s' w w' → Leaves tb.p fn tmps R [] .returning w') → Leaves tb.p fn tmps R ds .returning w := by
  intro dl
  induction dl with
  | nil =>
    intro s h ρ w ds hs hd hq
    cases h
    cases ds with
    | nil => exact hq ρ w (Stp.refl hs)
    | cons d ds => exact hd.elim
  | cons p dl ih =>
    intro s h ρ w ds hs hd hq
    obtain ⟨s1, h1, h2⟩ := ob_some.1 h
    cases ds with
    | nil => exact hd.elim
    | cons d ds =>
      obtain ⟨⟨k1, cap, args, rfl, k2⟩, k3⟩ := hd
      have hfn : ∃ fn', tb.fn.get p.1 = some fn' := by
        obtain ⟨fn', _, _, _, _, _, q, _⟩ := deferA_some h1
        exact ⟨fn', q⟩
      obtain ⟨fn', hfn⟩ := hfn
      refine leaves_cons (by intro h; cases h) (f := p.1) (args := (p.2.map (den ρ)).toArray) ?_ ?_
      · simp only [invoke, k2]; exact (hT.fn p.1 fn' hfn).2 _ w
      · refine defer_sound hT hc hf hg hl h1 hs k1 (fun ρ' w' v hst => ?_)
        exact ih s1 h2 ρ' w' ds hst.sat (k3.ext hst.ext hst.n) (fun ρ2 w2 hst2 => hq ρ2 w2 (hst.trans hst2))
end

/-- A CALL IS RIGHT. -/
theorem callA_ok {w0 : World} {tb : Tab} (hT : TabOk tb w0) (n : Nat) : CallOk tb w0 (callA tb n) := by
  induction n with
  | zero => intro G fl hid f xs s v s' h; cases h
  | succ n ih =>
    intro G fl hid f xs s v s' h ρ w hs hx
    obtain ⟨fn, c, e, st, h1, h2, h3, h4, h5, h6, h7⟩ := callA_some h
    refine calls_of_wp_defers (hT.fn f fn h1).1 h2 ?_
    refine (code_sound (cx := ⟨tb.g, tb.l, fl, hid⟩) hT ih (callA_fr n) rfl rfl _).1 _ _ _ _ h4 ρ w _ _ hs (args_sat h3 hx) trivial (fun ρ1 w1 a1 s1 t1 d1 => ?_)
    have key : Leaves tb.p fn a1.tmps (fun e w' => ∃ ρ', e = .returned (den ρ' v) ∧ Stp w0 ρ ρ' ⟨tb.g, tb.l, fl, hid⟩ s s' w w' ∧ Sc s'.n v) a1.defers .returning w1 := by
      refine defers_sound hT ih (callA_fr n) rfl rfl _ _ h6 ρ1 w1 _ s1.sat d1 (fun ρ2 w2 s2 => ?_)
      obtain ⟨k1, k2⟩ := results_sound hT s2.sat (t1.ext s2.ext s2.n) h7
      exact ⟨_, k1, ρ2, rfl, s1.trans s2, k2⟩
    rcases exOf_body h5 with he | he <;> rw [he] <;> exact key
end Ev
end Go.Proofs.YtipjmaimjchckaaGreatDoor

/-! What a seat's tables must tell, in small steps. -/
set_option linter.unusedSimpArgs false
set_option linter.unusedVariables false
namespace Go.Proofs.YtipjmaimjchckaaGreatDoor
open Go.RowKit
namespace Ev
theorem Tr.allP_nil {α : Type} {c : Nat → α → Prop} {k s : Nat} : (Tr.nil : Tr α).AllP c k s := trivial
theorem Tr.allP_none {α : Type} {c : Nat → α → Prop} {k s : Nat} {l r : Tr α} (h1 : l.AllP c (k + s) (2 * s)) (h2 : r.AllP c (k + 2 * s) (2 * s)) : (Tr.node none l r).AllP c k s := ⟨trivial, h1, h2⟩
theorem Tr.allP_some {α : Type} {c : Nat → α → Prop} {k s : Nat} {x : α} {l r : Tr α} (h : c k x) (h1 : l.AllP c (k + s) (2 * s)) (h2 : r.AllP c (k + 2 * s) (2 * s)) : (Tr.node (some x) l r).AllP c k s := ⟨h, h1, h2⟩
/-- A row of the table of functions is right. -/
structure FnOk (P : Program) (k : Nat) (f : Func) : Prop where
  get : (P.funcs[k]?) = some f
  name : (f.name == "runtime.NumGoroutine") = false
  body : f.body.isNone = false
theorem FnOk.run {P : Program} {k : Nat} {f : Func} (h : FnOk P k f) (args : Array Value) (w : World) : (callFunc k args).run P w = .ok (.enter k args) w := by
  have h1 := h.name
  have h2 := h.body
  have hp : (program : Sem Program).run P w = .ok P w := rfl
  unfold callFunc
  rw [Sem.run_bind, hp, Result.andThen_ok, h.get]
  dsimp only
  rw [h1, h2]
  rfl
theorem tab_ok {tb : Tab} {w0 : World} (h1 : tb.ty.AllP (fun k i => TyOk tb.p k i) 0 1) (h2 : tb.fn.AllP (fun k f => FnOk tb.p k f) 0 1) (h3 : tb.p.follows .mixedOrders = true)
    (h4 : ∀ f xs v, tb.orc f xs = some v → (∀ (_ : Gh) n, Sc n v) ∧ (∀ args w, (callFunc f args).run tb.p w = .ok (.enter f args) w) ∧
      ∀ ρ w, Below w0.heap.size w0 w → Calls tb.p f (xs.map (den ρ)).toArray w fun e w' => e = .returned (den ρ v) ∧ Below w.heap.size w w') : TabOk tb w0 where
  ty := fun t i h => Tr.allP_get h1 h
  fn := fun f fn h => ⟨(Tr.allP_get h2 h).get, (Tr.allP_get h2 h).run⟩
  orc := h4
  mixed := h3
end Ev
end Go.Proofs.YtipjmaimjchckaaGreatDoor

/-! What a row lists of the program's variables, as abstract cells and blocks that are never written. -/
set_option linter.unusedSimpArgs false
set_option linter.unusedVariables false
set_option linter.unusedSectionVars false
namespace Go.Proofs.YtipjmaimjchckaaGreatDoor
open Go.RowKit
namespace Ev
/-- Cells, the blocks behind them, the next block's number. -/
abbrev LayR := List AV × List (Nat × List AV) × Nat
def layL {α : Type} (g : α → Nat → Option LayR) : List α → Nat → Option LayR
  | [], n => some ([], [], n)
  | x :: l, n => (g x n).bind fun a => (layL g l a.2.2).map fun b => (a.1 ++ b.1, a.2.1 ++ b.2.1, b.2.2)
def tiles (P : Program) : List Field → Nat → Option Nat
  | [], o => some o
  | f :: l, o => if f.offset = o then tiles P l (o + P.cellsOf f.type) else none
def layD (P : Program) : Nat → TypeId → DataW Unit → Nat → Option LayR
  | 0, _, _, _ => none
  | f + 1, t, d, n =>
    match P.underlying t, d with
    | some .bool, .lit (.bool b) => some ([.v (.bool b)], [], n)
    | some (.int k), .lit (.int _ z) => some ([.v (.int k z)], [], n)
    | some .string, .lit (.string s) => some ([.v (.string ⟨s.toArray⟩)], [], n)
    | some (.pointer e), .ptr d => if P.cellsOf e = 0 then none else (layD P f e d (n + 1)).map fun a => ([.ptr n 0], (n, a.1) :: a.2.1, a.2.2)
    | some (.slice e), .slice es sp => if P.cellsOf e = 0 ∨ es.isEmpty then none else
        (layL (fun d n => layD P f e d n) (es ++ sp) (n + 1)).map fun a => ([.sl n 0 es.length (es.length + sp.length)], (n, a.1) :: a.2.1, a.2.2)
    | some (.struct fs), .agg ps => if fs.size = ps.length ∧ tiles P fs.toList 0 = some (P.cellsOf t) then layL (fun (p : Field × DataW Unit) n => layD P f p.1.type p.2 n) (fs.toList.zip ps) n else none
    | some (.array m e), .agg ps => if ps.length = m ∧ P.cellsOf t = m * P.cellsOf e then layL (fun d n => layD P f e d n) ps n else none
    | _, _ => none

section
variable [Gh] (w : World)
structure LayOk (ρ : Env) (n : Nat) (r : LayR) (cs : List Value) : Prop where
  le : n ≤ r.2.2
  cells : cs = r.1.map (den ρ)
  sc : ScL r.2.2 r.1
  blks : ∀ q ∈ r.2.1, n ≤ q.1 ∧ q.1 < r.2.2 ∧ ScL r.2.2 q.2 ∧ (∃ x, w.heap[ρ.blk q.1]? = some x) ∧ ∀ i x, q.2[i]? = some x → w.cell? ⟨ρ.blk q.1, ρ.off q.1 + i, none⟩ = some (den ρ x)
def LaySound (n : Nat) (r : LayR) (cs : List Value) : Prop := ∀ ρ, ∃ ρ', Ext n ρ ρ' ∧ LayOk w ρ' n r cs

variable {w}
theorem LayOk.ext {ρ ρ' : Env} {n m : Nat} {r : LayR} {cs : List Value} (h : LayOk w ρ n r cs) (he : Ext r.2.2 ρ ρ') (hm : r.2.2 ≤ m) :
    cs = r.1.map (den ρ') ∧ ScL m r.1 ∧ ∀ q ∈ r.2.1, n ≤ q.1 ∧ q.1 < r.2.2 ∧ ScL m q.2 ∧ (∃ x, w.heap[ρ'.blk q.1]? = some x) ∧ ∀ i x, q.2[i]? = some x → w.cell? ⟨ρ'.blk q.1, ρ'.off q.1 + i, none⟩ = some (den ρ' x) := by
  refine ⟨by rw [denL_map_ext he h.sc]; exact h.cells, ScL.mono hm _ h.sc, fun q hq => ?_⟩
  obtain ⟨h1, h2, h3, h4, h5⟩ := h.blks q hq
  have hb := he q.1 h2
  refine ⟨h1, h2, ScL.mono hm _ h3, by rw [hb.1]; exact h4, fun i x hx => ?_⟩
  rw [hb.1, hb.2.1, h5 i x hx, den_ext he x ((scL_iff _ _).1 h3 x (List.mem_of_getElem? hx))]

theorem layL_sound {α : Type} {g : α → Nat → Option LayR} {S : α → List Value → Prop} (hg : ∀ x n r, g x n = some r → ∀ cs, S x cs → LaySound w n r cs) :
    ∀ (l : List α) (n : Nat) (r : LayR), layL g l n = some r → ∀ css : List (List Value), css.length = l.length → (∀ (i : Nat) (x : α) (c : List Value), l[i]? = some x → css[i]? = some c → S x c) → LaySound w n r css.flatten := by
  intro l
  induction l with
  | nil =>
    intro n r h css hl hs ρ
    cases h
    cases css with
    | nil => exact ⟨ρ, Ext.refl _ _, Nat.le_refl _, rfl, trivial, fun q hq => by cases hq⟩
    | cons c css => cases hl
  | cons x l ih =>
    intro n r h css hl hs ρ
    cases css with
    | nil => cases hl
    | cons c css =>
      simp only [layL, Option.bind_eq_some_iff, Option.map_eq_some_iff] at h
      obtain ⟨a, h1, b, h2, rfl⟩ := h
      obtain ⟨ρ1, e1, k1⟩ := hg x n a h1 c (hs 0 x c rfl rfl) ρ
      obtain ⟨ρ2, e2, k2⟩ := ih a.2.2 b h2 css (by simpa using hl) (fun i y d hy hd => hs (i + 1) y d (by simpa using hy) (by simpa using hd)) ρ1
      obtain ⟨q1, q2, q3⟩ := k1.ext e2 k2.le
      refine ⟨ρ2, e1.trans e2 k1.le, Nat.le_trans k1.le k2.le, ?_, ?_, fun q hq => ?_⟩
      · rw [List.flatten_cons, List.map_append, ← q1, ← k2.cells]
      · rw [scL_iff]; intro y hy
        rcases List.mem_append.1 hy with hy | hy
        · exact (scL_iff _ _).1 q2 y hy
        · exact (scL_iff _ _).1 k2.sc y hy
      · rcases List.mem_append.1 hq with hq | hq
        · obtain ⟨j1, j2, j3, j4, j5⟩ := q3 q hq
          exact ⟨j1, Nat.lt_of_lt_of_le j2 k2.le, j3, j4, j5⟩
        · obtain ⟨j1, j2, j3, j4, j5⟩ := k2.blks q hq
          exact ⟨Nat.le_trans k1.le j1, j2, j3, j4, j5⟩
end
end Ev
end Go.Proofs.YtipjmaimjchckaaGreatDoor

/-! What a row lists of the program's variables: it is laid as layD says. -/
set_option linter.unusedSimpArgs false
set_option linter.unusedVariables false
set_option linter.unusedSectionVars false
namespace Go.Proofs.YtipjmaimjchckaaGreatDoor
open Go.RowKit
namespace Ev
/-- The environment with a block laid somewhere. -/
def Env.at' (ρ : Env) (n r o : Nat) : Env := ⟨fun b => if b = n then r else ρ.blk b, fun b => if b = n then o else ρ.off b, ρ.cp⟩
theorem Env.at'_ext (ρ : Env) (n r o : Nat) : Ext n ρ (ρ.at' n r o) := fun b hb => by
  have : b ≠ n := by omega
  simp [Env.at', this]

theorem flat_get {α : Type} {z : Nat} (hz : 0 < z) : ∀ (css : List (List α)), (∀ c ∈ css, c.length = z) → ∀ j, css.flatten[j]? = (css[j / z]?).bind (·[j % z]?) := by
  intro css
  induction css with
  | nil => intro _ j; simp
  | cons c css ih =>
    intro h j
    have hc := h c List.mem_cons_self
    rw [List.flatten_cons]
    by_cases hj : j < z
    · rw [List.getElem?_append_left (by omega), Nat.div_eq_of_lt hj, Nat.mod_eq_of_lt hj]; rfl
    · rw [List.getElem?_append_right (by omega), hc, ih (fun d hd => h d (List.mem_cons_of_mem _ hd))]
      have e1 : j / z = (j - z) / z + 1 := by rw [Nat.div_eq_sub_div hz (by omega)]
      have e2 : j % z = (j - z) % z := by rw [Nat.mod_eq_sub_mod (by omega)]
      rw [e1, e2, List.getElem?_cons_succ]

section
variable [Gh] {w : World} {P : Program}

theorem sound_lit (n : Nat) (v : Value) : LaySound w n ([.v v], [], n) [v] := fun ρ => ⟨ρ, Ext.refl _ _, Nat.le_refl _, rfl, ⟨trivial, trivial⟩, fun q hq => by cases hq⟩

/-- A row of cells behind a pointer or a slice. -/
theorem sound_row {n : Nat} {a : LayR} {row : List Value} {A : Addr} (h : LaySound w (n + 1) a row) (hrow : ∀ j v, row[j]? = some v → w.cell? (A.add j) = some v) (hne : row ≠ []) (mk : Addr → Value) (mkA : AV)
    (hA : ∀ ρ : Env, ρ.blk n = A.block → ρ.off n = A.off → den ρ mkA = mk ⟨A.block, A.off, none⟩) (hs : ∀ m, n < m → ¬ Gh.bad n → Sc m mkA) (hg : ¬ Gh.bad n) :
    LaySound w n ([mkA], (n, a.1) :: a.2.1, a.2.2) [mk A] := by
  have hspot : A.spot = none := by
    obtain ⟨v, r, rfl⟩ : ∃ v r, row = v :: r := by cases row with | nil => exact absurd rfl hne | cons v r => exact ⟨v, r, rfl⟩
    have := hrow 0 v rfl
    have e : A.add 0 = A := rfl
    rw [e] at this
    unfold World.cell? at this
    split at this
    · split at this
      · cases this
      · rename_i hn; cases hx : A.spot with
        | none => rfl
        | some k => rw [hx] at hn; exact absurd rfl hn
    · cases this
  have hadd : ∀ j, A.add j = ⟨A.block, A.off + j, none⟩ := by
    intro j
    unfold Addr.add
    split
    · rename_i h0; subst h0; cases A; simp at hspot; simp [hspot]
    · rfl
  have hA0 : A = ⟨A.block, A.off, none⟩ := by cases A; simp at hspot; simp [hspot]
  intro ρ
  obtain ⟨ρ', e1, k1⟩ := h (ρ.at' n A.block A.off)
  have hn := e1 n (Nat.lt_succ_self n)
  have b1 : ρ'.blk n = A.block := by rw [hn.1]; simp [Env.at']
  have b2 : ρ'.off n = A.off := by rw [hn.2.1]; simp [Env.at']
  refine ⟨ρ', (Env.at'_ext ρ n A.block A.off).trans (e1.mono (Nat.le_succ n)) (Nat.le_refl _), Nat.le_trans (Nat.le_succ n) k1.le, ?_, ⟨hs _ (Nat.lt_of_lt_of_le (Nat.lt_succ_self n) k1.le) hg, trivial⟩, fun q hq => ?_⟩
  · show [mk A] = [den ρ' mkA]
    rw [hA ρ' b1 b2, ← hA0]
  · rcases List.mem_cons.1 hq with rfl | hq
    · refine ⟨Nat.le_refl _, Nat.lt_of_lt_of_le (Nat.lt_succ_self n) k1.le, k1.sc, ?_, fun i x hx => ?_⟩
      · obtain ⟨v, r, hr⟩ : ∃ v r, row = v :: r := by cases row with | nil => exact absurd rfl hne | cons v r => exact ⟨v, r, rfl⟩
        have := hrow 0 v (by rw [hr]; rfl)
        rw [hadd] at this
        unfold World.cell? at this
        dsimp only
        rw [b1]
        cases hx : w.heap[A.block]? with
        | none => rw [hx] at this; cases this
        | some x => exact ⟨x, rfl⟩
      · dsimp only
        rw [b1, b2, ← hadd]
        apply hrow
        rw [k1.cells, List.getElem?_map, hx]; rfl
    · obtain ⟨j1, j2, j3⟩ := k1.blks q hq
      exact ⟨Nat.le_of_succ_le j1, j2, j3⟩
end
end Ev
end Go.Proofs.YtipjmaimjchckaaGreatDoor

/-! What a row lists of the program's variables: layD is right. -/
set_option linter.unusedSimpArgs false
set_option linter.unusedVariables false
set_option linter.unusedSectionVars false
namespace Go.Proofs.YtipjmaimjchckaaGreatDoor
open Go.RowKit
namespace Ev
section
variable [Gh] {w : World} {P : Program}
/-- A datum is read from cells. -/
def Reads (P : Program) (w : World) (t : TypeId) (d : DataW Unit) (cs : List Value) : Prop := ∃ fuel p, DataW.trod (fun _ => ()) P w 0 (fun _ => true) false fuel t cs = some (d, p)

omit [Gh] in
theorem chop {α : Type} {z : Nat} : ∀ (m : Nat) (cs : List α), cs.length = m * z → ((List.range m).map fun i => (cs.drop (i * z)).take z).flatten = cs := by
  intro m
  induction m with
  | zero => intro cs h; simp at h; subst h; rfl
  | succ m ih =>
    intro cs h
    rw [List.range_succ_eq_map, List.map_cons, List.flatten_cons, List.map_map]
    have h2 : (cs.drop z).length = m * z := by rw [List.length_drop, h, Nat.succ_mul]; omega
    have := ih (cs.drop z) h2
    have e : ((fun i => (cs.drop (i * z)).take z) ∘ Nat.succ) = fun i => ((cs.drop z).drop (i * z)).take z := by
      funext i; simp only [Function.comp, List.drop_drop]; congr 2; rw [Nat.succ_mul, Nat.add_comm]
    rw [e, this]
    simp

omit [Gh] in
theorem tiles_chop {α : Type} : ∀ (fs : List Field) (o e : Nat) (cs : List α), tiles P fs o = some e → cs.length = e → o ≤ e ∧ (fs.map fun f => (cs.drop f.offset).take (P.cellsOf f.type)).flatten = cs.drop o := by
  intro fs
  induction fs with
  | nil => intro o e cs h hl; cases h; exact ⟨Nat.le_refl _, by simp [hl]⟩
  | cons f fs ih =>
    intro o e cs h hl
    unfold tiles at h
    split at h
    · rename_i ho
      obtain ⟨h1, h2⟩ := ih _ _ cs h hl
      refine ⟨by omega, ?_⟩
      rw [List.map_cons, List.flatten_cons, h2, ho, ← List.drop_drop, List.take_append_drop]
    · cases h

theorem layD_sound (hG : ∀ n, ¬ Gh.bad n) (f : Nat) : ∀ (t : TypeId) (d : DataW Unit) (n : Nat) (r : LayR), layD P f t d n = some r → ∀ cs, Reads P w t d cs → LaySound w n r cs := by
  induction f with
  | zero => intro t d n r h; cases h
  | succ f ih =>
    intro t d n r h cs hr
    obtain ⟨fuel, p, hr⟩ := hr
    unfold layD at h
    split at h
    · rename_i ht
      obtain ⟨b, rfl, hx⟩ := DataW.trod_bool ht hr
      cases h; cases hx; exact sound_lit n _
    · rename_i ht
      obtain ⟨z, rfl, hx, _⟩ := DataW.trod_int ht hr
      cases h; cases hx; exact sound_lit n _
    · rename_i ht
      obtain ⟨s, rfl, hx, _⟩ := DataW.trod_string ht hr
      cases h; cases hx; exact sound_lit n _
    · rename_i e d' ht
      split at h
      · cases h
      · rename_i hz
        obtain ⟨a, h1, rfl⟩ := Option.map_eq_some_iff.1 h
        rcases DataW.trod_pointer ht hr with ⟨_, hx⟩ | ⟨A, cs', y, m, rfl, rfl, hx, hc, hy⟩
        · cases hx
        · cases hx
          obtain ⟨_, hl, hg⟩ := World.cells?_some hc
          refine sound_row (row := cs') (A := A) (mk := fun A => .pointer (some A)) (ih e _ (n + 1) a h1 cs' ⟨m, y.2, hy⟩) (fun j v hv => ?_) (fun h0 => ?_) (.ptr n 0) (fun ρ b1 b2 => ?_) (fun m hm hb => ⟨hm, hb⟩) (hG n)
          · have hj : j < P.cellsOf e := by rw [← hl]; exact (List.getElem?_eq_some_iff.1 hv).1
            rw [hg j hj, hv]
          · rw [h0] at hl; exact hz hl.symm
          · simp only [den, b1, b2, Nat.add_zero]
    · rename_i e es sp ht
      split at h
      · cases h
      · rename_i hz
        obtain ⟨a, h1, rfl⟩ := Option.map_eq_some_iff.1 h
        rcases DataW.trod_slice ht hr with ⟨_, hx⟩ | ⟨A, len, cap, elems, rest, m, rfl, rfl, hx, _, hlc, _, hel, hE, hR, _⟩
        · cases hx
        · cases hx
          obtain ⟨hrl, hR⟩ := hR rfl
          have hz0 : 0 < P.cellsOf e := Nat.pos_of_ne_zero (fun h => hz (.inl h))
          have hlen0 : 0 < len := by
            rcases Nat.eq_zero_or_pos len with h0 | h0
            · rw [h0] at hel
              have : elems = [] := List.length_eq_zero_iff.1 hel
              subst this
              exact absurd (.inr rfl) hz
            · exact h0
          -- each piece
          have hall : ∀ i, i < elems.length + rest.length → ∃ c, w.cells? 0 (A.add (i * P.cellsOf e)) (P.cellsOf e) = some c ∧ ∃ y, (elems ++ rest)[i]? = some y ∧ DataW.trod (fun _ => ()) P w 0 (fun _ => true) false m e c = some y := by
            intro i hi
            have key : (w.cells? 0 (A.add (i * P.cellsOf e)) (P.cellsOf e)).bind (DataW.trod (fun _ => ()) P w 0 (fun _ => true) false m e) = (elems ++ rest)[i]? := by
              by_cases hlt : i < len
              · rw [hE i hlt, List.getElem?_append_left (by omega)]
              · have := hR (i - len) (by omega)
                rw [show len + (i - len) = i by omega] at this
                rw [this, List.getElem?_append_right (by omega), hel]
            obtain ⟨y, hy⟩ : ∃ y, (elems ++ rest)[i]? = some y := ⟨_, List.getElem?_eq_getElem (by rw [List.length_append]; exact hi)⟩
            rw [hy] at key
            obtain ⟨c, hc, hcy⟩ := Option.bind_eq_some_iff.1 key
            exact ⟨c, hc, y, hy, hcy⟩
          let css : List (List Value) := (List.range (elems.length + rest.length)).map fun i => (w.cells? 0 (A.add (i * P.cellsOf e)) (P.cellsOf e)).getD []
          have hcl : css.length = elems.length + rest.length := by simp [css]
          have hget : ∀ (i : Nat) (c : List Value), css[i]? = some c → i < elems.length + rest.length ∧ w.cells? 0 (A.add (i * P.cellsOf e)) (P.cellsOf e) = some c := by
            intro i c hc
            have hi : i < elems.length + rest.length := by rw [← hcl]; exact (List.getElem?_eq_some_iff.1 hc).1
            obtain ⟨c', h2, _⟩ := hall i hi
            simp only [css, List.getElem?_map, List.getElem?_range hi, Option.map_some, Option.some.injEq] at hc
            rw [h2] at hc ⊢
            exact ⟨hi, congrArg some hc⟩
          have hlenz : ∀ c ∈ css, c.length = P.cellsOf e := by
            intro c hc
            obtain ⟨i, hi⟩ := List.getElem?_of_mem hc
            exact (World.cells?_some (hget i c hi).2).2.1
          have hs := layL_sound (S := fun d c => Reads P w e d c) (fun x n r hx cs hcs => ih e x n r hx cs hcs) _ (n + 1) a h1 css (by rw [hcl]; simp) (fun i x c hx hc => by
            obtain ⟨hi, h2⟩ := hget i c hc
            obtain ⟨c', h3, y, h4, h5⟩ := hall i hi
            rw [h2] at h3; cases h3
            rw [← List.map_append, List.getElem?_map, h4] at hx
            cases hx
            exact ⟨m, y.2, h5⟩)
          have e1 : (elems.map (·.1)).length = len := by simp [hel]
          have e2 : (elems.map (·.1)).length + (rest.map (·.1)).length = cap := by simp; omega
          rw [e2, e1]
          refine sound_row (row := css.flatten) (A := A) (mk := fun A => .slice (some A) len cap) hs (fun j v hv => ?_) (fun h0 => ?_) (.sl n 0 len cap) (fun ρ b1 b2 => ?_) (fun m hm hb => ⟨hm, hb⟩) (hG n)
          · rw [flat_get hz0 css hlenz] at hv
            obtain ⟨c, hc, hcv⟩ := Option.bind_eq_some_iff.1 hv
            obtain ⟨_, h2⟩ := hget _ c hc
            have h3 := (World.cells?_some h2).2.2 (j % P.cellsOf e) (Nat.mod_lt _ hz0)
            rw [hcv] at h3
            have hj : j / P.cellsOf e * P.cellsOf e + j % P.cellsOf e = j := by rw [Nat.mul_comm]; exact Nat.div_add_mod j _
            rw [Addr.add_add, hj] at h3
            exact h3
          · have : css.flatten.length = 0 := by rw [h0]; rfl
            have hc0 : ∃ c, css[0]? = some c := ⟨_, List.getElem?_eq_getElem (by omega)⟩
            obtain ⟨c, hc⟩ := hc0
            have h2 := hlenz c (List.mem_of_getElem? hc)
            have h3 : c.length ≤ css.flatten.length := by
              cases hcs : css with
              | nil => rw [hcs] at hc; cases hc
              | cons c0 cr => rw [hcs] at hc; cases hc; simp
            omega
          · simp only [den, b1, b2, Nat.add_zero]
    · rename_i fs ps ht
      split at h
      · rename_i hcond
        obtain ⟨xs, m, rfl, hx, hl, hxl, hall⟩ := DataW.trod_struct ht hr
        cases hx
        have hch := (tiles_chop fs.toList 0 _ cs hcond.2 hl).2
        rw [List.drop_zero] at hch
        rw [← hch]
        refine layL_sound (S := fun (p : Field × DataW Unit) c => Reads P w p.1.type p.2 c) (fun x n r hx cs hcs => ih _ x.2 n r hx cs hcs) _ n r h _ (by simp [hxl]) (fun i x c hx hc => ?_)
        rw [List.getElem?_zip_eq_some] at hx
        obtain ⟨h1, h2⟩ := hx
        rw [List.getElem?_map, h1] at hc
        cases hc
        have h3 := hall i x.1 (by rw [← Array.getElem?_toList]; exact h1)
        rw [List.getElem?_map] at h2
        obtain ⟨y, h4, h5⟩ := Option.map_eq_some_iff.1 h2
        rw [h4] at h3
        exact ⟨m, y.2, by rw [h3, ← h5]⟩
      · cases h
    · rename_i m e ps ht
      split at h
      · rename_i hcond
        obtain ⟨xs, m', rfl, hx, hl, hxl, hall⟩ := DataW.trod_array ht hr
        cases hx
        rw [hcond.2] at hl
        rw [← chop m cs hl]
        refine layL_sound (S := fun d c => Reads P w e d c) (fun x n r hx cs hcs => ih e x n r hx cs hcs) _ n r h _ (by simp [hxl]) (fun i x c hx hc => ?_)
        rw [List.getElem?_map] at hx
        obtain ⟨y, h4, h5⟩ := Option.map_eq_some_iff.1 hx
        have hi : i < m := by rw [← hxl]; exact (List.getElem?_eq_some_iff.1 h4).1
        rw [List.getElem?_map, List.getElem?_range hi] at hc
        cases hc
        exact ⟨m', y.2, by rw [hall i hi, h4, ← h5]⟩
      · cases h
    · cases h
end
end Ev
end Go.Proofs.YtipjmaimjchckaaGreatDoor

/-! What a row lists of the program's variables: the heap at the start. -/
set_option linter.unusedSimpArgs false
set_option linter.unusedVariables false
set_option linter.unusedSectionVars false
namespace Go.Proofs.YtipjmaimjchckaaGreatDoor
open Go.RowKit
namespace Ev
theorem trod_iface {H : Type} {enc : TypeId × Value → H} {P : Program} {w : World} {base : Nat} {sp : Nat → Bool} {fuel : Nat} {t : TypeId} {cs : List Value} {x : DataW H × List MemPlace} {ms} (ht : P.underlying t = some (.interface ms))
  (h : DataW.trod enc P w base sp false fuel t cs = some x) : (cs = [.nilIface] ∧ x = (.nil, [])) ∨ ∃ u v name y n, fuel = n + 1 ∧ cs = [.iface u v] ∧ P.typeName? 3 u = some name ∧ DataW.trod enc P w base sp false n u v.cells.toList = some y ∧ x = (.iface name y.1, y.2) := by
  cases fuel with
  | zero => simp [DataW.trod] at h
  | succ n =>
    unfold DataW.trod at h
    rw [ht] at h
    match cs, h with
    | [], h => cases h
    | [v], h =>
      cases v <;> first
        | (cases h; done)
        | (cases h; exact .inl ⟨rfl, rfl⟩)
        | skip
      rename_i u v
      dsimp only at h
      cases hn : P.typeName? 3 u with
      | none => rw [hn] at h; cases h
      | some name =>
        rw [hn] at h
        obtain ⟨y, h1, h2⟩ := Option.map_eq_some_iff.1 h
        exact .inr ⟨u, v, name, y, n, rfl, rfl, hn, h1, h2.symm⟩
    | a :: b :: l, h => simp at h

/-- The cells of a variable: an interface is opaque. -/
def layI (P : Program) (f : Nat) (t : TypeId) (d : DataW Unit) (n : Nat) : Option LayR :=
  match P.underlying t, d with
  | some (.interface _), .iface _ _ => some ([.mp n], [], n + 1)
  | _, _ => layD P f t d n
def layVars (P : Program) (G : Nat) : List (String × DataW Unit) → Nat → Option (List (Nat × List AV) × Nat)
  | [], n => some ([], n)
  | x :: r, n => (P.globalNamed x.1).bind fun g => if g < G then ((P.globals[g]?).map (·.type)).bind fun t => (layI P 50 t x.2 n).bind fun a => (layVars P G r a.2.2).map fun b => ((g, a.1) :: (a.2.1 ++ b.1), b.2) else none
def Env.atC (ρ : Env) (n : Nat) (u : TypeId) (v : Value) : Env := ⟨ρ.blk, ρ.off, fun b => if b = n then ⟨0, u, v⟩ else ρ.cp b⟩

section
variable [Gh] {w : World} {P : Program}
theorem layI_sound (hG : ∀ n, ¬ Gh.bad n) {f : Nat} {t : TypeId} {d : DataW Unit} {n : Nat} {r : LayR} (h : layI P f t d n = some r) {cs : List Value} (hr : Reads P w t d cs) : LaySound w n r cs := by
  unfold layI at h
  split at h
  · rename_i ms a b ht
    obtain ⟨fuel, p, hr⟩ := hr
    rcases trod_iface ht hr with ⟨_, hx⟩ | ⟨u, v, name, y, m, _, rfl, _, _, hx⟩
    · cases hx
    · cases h
      intro ρ
      refine ⟨ρ.atC n u v, fun b hb => ?_, Nat.le_succ n, ?_, ⟨⟨Nat.lt_succ_self n, hG n⟩, trivial⟩, fun q hq => by cases hq⟩
      · have : b ≠ n := by omega
        simp [Env.atC, this]
      · simp [den, Env.atC]
  · exact layD_sound hG f t _ n r h cs hr

/-- A block holds what it shall. -/
def BlkOk (w : World) (ρ : Env) (n : Nat) (q : Nat × List AV) : Prop :=
  q.1 < n ∧ ScL n q.2 ∧ (∃ x, w.heap[ρ.blk q.1]? = some x) ∧ ∀ i x, q.2[i]? = some x → w.cell? ⟨ρ.blk q.1, ρ.off q.1 + i, none⟩ = some (den ρ x)
theorem BlkOk.ext {ρ ρ' : Env} {n m : Nat} {q : Nat × List AV} (h : BlkOk w ρ n q) (he : Ext n ρ ρ') (hm : n ≤ m) : BlkOk w ρ' m q := by
  obtain ⟨h1, h2, h3, h4⟩ := h
  have hb := he q.1 h1
  refine ⟨Nat.lt_of_lt_of_le h1 hm, ScL.mono hm _ h2, by rw [hb.1]; exact h3, fun i x hx => ?_⟩
  rw [hb.1, hb.2.1, h4 i x hx, den_ext he x ((scL_iff _ _).1 h2 x (List.mem_of_getElem? hx))]

theorem layVars_sound (hG : ∀ n, ¬ Gh.bad n) {G : Nat} : ∀ (L : List (String × DataW Unit)) (ps : List MemPlace) (n : Nat) (r : List (Nat × List AV) × Nat), DataW.LaidVars P w L ps → layVars P G L n = some r → G ≤ n →
    ∀ ρ : Env, (∀ g, g < G → ρ.blk g = g ∧ ρ.off g = 0) → ∃ ρ', Ext n ρ ρ' ∧ n ≤ r.2 ∧ ∀ q ∈ r.1, BlkOk w ρ' r.2 q := by
  intro L
  induction L with
  | nil => intro ps n r _ h _ ρ _; cases h; exact ⟨ρ, Ext.refl _ _, Nat.le_refl _, fun q hq => by cases hq⟩
  | cons x L ih =>
    intro ps n r hl h hn ρ hρ
    obtain ⟨nm, d⟩ := x
    obtain ⟨g, t, cs, fuel, p, q, h1, h2, h3, h4, h5, _⟩ := hl
    simp only [layVars, Option.bind_eq_some_iff] at h
    obtain ⟨g', k1, k2⟩ := h
    rw [h1] at k1; cases k1
    by_cases hg : g < G
    · rw [if_pos hg] at k2
      simp only [Option.bind_eq_some_iff] at k2
      obtain ⟨t', k3, k4⟩ := k2
      rw [h2] at k3; cases k3
      obtain ⟨a, k5, k6⟩ := k4
      obtain ⟨b, k7, rfl⟩ := Option.map_eq_some_iff.1 k6
      obtain ⟨ρ1, e1, j1⟩ := layI_sound hG k5 ⟨fuel, p, h4⟩ ρ
      have hρ1 : ∀ g, g < G → ρ1.blk g = g ∧ ρ1.off g = 0 := fun g hg => by
        have := e1 g (by omega)
        rw [this.1, this.2.1]; exact hρ g hg
      obtain ⟨ρ2, e2, j2, j3⟩ := ih q a.2.2 b h5 k7 (Nat.le_trans hn j1.le) ρ1 hρ1
      refine ⟨ρ2, e1.trans e2 j1.le, Nat.le_trans j1.le j2, fun y hy => ?_⟩
      rcases List.mem_cons.1 hy with rfl | hy
      · have hc : BlkOk w ρ1 a.2.2 (g, a.1) := by
          have hw : ∃ ty fr, w.heap[g]? = some (.cells cs ty fr) := by
            unfold World.var? at h3
            rw [h1] at h3
            simp only [Option.bind_some] at h3
            split at h3
            · rename_i c ty fr hx; cases h3; exact ⟨ty, fr, hx⟩
            · cases h3
          obtain ⟨ty, fr, hw⟩ := hw
          refine ⟨Nat.lt_of_lt_of_le (by omega) j1.le, j1.sc, by rw [(hρ1 g hg).1]; exact ⟨_, hw⟩, fun i z hz => ?_⟩
          rw [(hρ1 g hg).1, (hρ1 g hg).2, Nat.zero_add]
          have := congrArg (·[i]?) j1.cells
          simp only [List.getElem?_map, hz, Option.map_some] at this
          simp only [World.cell?, hw, Option.isSome_none, Bool.false_eq_true, if_false]
          rw [← this, Array.getElem?_toList]
        exact hc.ext e2 j2
      · rcases List.mem_append.1 hy with hy | hy
        · obtain ⟨i1, i2, i3, i4, i5⟩ := j1.blks y hy
          exact BlkOk.ext ⟨i2, i3, i4, i5⟩ e2 j2
        · exact j3 y hy
    · rw [if_neg hg] at k2; cases k2
end
end Ev
end Go.Proofs.YtipjmaimjchckaaGreatDoor

/-! From what a row lists to the evaluator's heap at the start; a closed call, run. -/
set_option linter.unusedSimpArgs false
set_option linter.unusedVariables false
set_option linter.unusedSectionVars false
namespace Go.Proofs.YtipjmaimjchckaaGreatDoor
open Go.RowKit
namespace Ev
@[instance_reducible] def G0 : Gh := ⟨fun _ => False⟩
/-- The blocks as a heap. -/
noncomputable def heapOf (bs : List (Nat × List AV)) : Tr HO := bs.foldr (fun q t => t.set q.1 (.ro q.2)) .nil
theorem heapOf_get {bs : List (Nat × List AV)} {b : Nat} {o : HO} (h : (heapOf bs).get b = some o) : ∃ q ∈ bs, q.1 = b ∧ o = .ro q.2 := by
  induction bs with
  | nil => exact absurd (show (Tr.nil : Tr HO).get b = some o from h) (by rw [Tr.get_nil]; intro h; cases h)
  | cons q bs ih =>
    have h : ((heapOf bs).set q.1 (.ro q.2)).get b = some o := h
    by_cases e : q.1 = b
    · subst e; rw [Tr.get_set] at h; cases h; exact ⟨q, List.mem_cons_self, rfl, rfl⟩
    · rw [Tr.get_set_ne _ _ e] at h
      obtain ⟨r, h1, h2⟩ := ih h
      exact ⟨r, List.mem_cons_of_mem _ h1, h2⟩

theorem start_sat {P : Program} {L : List (String × DataW Unit)} {G n : Nat} {bs : List (Nat × List AV)} {w0 w : World} (hl : laidMet P L w0) (hw : Below w0.heap.size w0 w) (h : layVars P G L G = some (bs, n)) :
    ∃ ρ, @SatH G0 w0 ρ ⟨G, n, n, []⟩ ⟨heapOf bs, n⟩ w := by
  obtain ⟨ps, h1, _⟩ := hl
  obtain ⟨ρ, e1, e2, e3⟩ := @layVars_sound G0 w0 P (fun _ h => h) G L ps G (bs, n) h1 h (Nat.le_refl _) ⟨fun b => b, fun _ => 0, fun _ => ⟨0, 0, .nilIface⟩⟩ (fun g _ => ⟨rfl, rfl⟩)
  have key : ∀ b o, (Hs.mk (heapOf bs) n).look [] b = some o → b < n ∧ @HO.Holds G0 ρ n b w o ∧ @HO.Holds G0 ρ n b w0 o := by
    intro b o hb
    obtain ⟨q, h2, rfl, rfl⟩ := heapOf_get (Hs.look_some.1 hb).2
    obtain ⟨k1, k2, k3, k4⟩ := e3 q h2
    refine ⟨k1, ⟨?_, fun i x hx => cell_later hw (k4 i x hx), k2⟩, k3, k4, k2⟩
    obtain ⟨x, hx⟩ := k3
    have hlt : ρ.blk q.1 < w0.heap.size := by
      rcases Nat.lt_or_ge (ρ.blk q.1) w0.heap.size with h | h
      · exact h
      · rw [Array.getElem?_eq_none h] at hx; cases hx
    have := Nat.lt_of_lt_of_le hlt hw.size
    exact ⟨_, Array.getElem?_eq_getElem this⟩
  refine ⟨ρ, @SatH.mk G0 _ _ _ _ _ (fun g hg => ?_) (fun _ _ h => h) (fun _ _ h => h) e2 (Nat.le_refl _) (Nat.le_refl _) (fun _ _ => rfl) hw (fun b o hb => (key b o hb).1) (fun b o hb => (key b o hb).2.1) ?_ ?_ ?_⟩
  · have := e1 g hg
    exact ⟨this.1, this.2.1⟩
  · intro b o hb hl; have := (key b o hb).1; exact absurd hl (Nat.not_le.2 this)
  · intro b o hb _; exact @HO.Holds.lt G0 _ _ _ _ _ (key b o hb).2.2
  · intro b b' o o' hb _ hl; have := (key b o hb).1; exact absurd hl (Nat.not_le.2 this)

/-- Is the answer of a run the value? -/
noncomputable def isTrue (x : Option (AV × Hs)) : Bool := Option.rec (motive := fun _ => Bool) false (fun p => AV.el (fun v => vel (fun b => b) (fun _ _ => false) (fun _ => false) (fun _ _ _ => false) (fun _ _ _ => false) (fun _ => false) (fun _ => false) false v) (fun _ _ => false) (fun _ _ _ _ => false) (fun _ _ _ _ => false) (fun _ _ _ => false) (fun _ _ => false) (fun _ => false) (fun _ => false) (fun _ => false) p.1) x
theorem isTrue_some {x : Option (AV × Hs)} (h : isTrue x = true) : ∃ s, x = some (.v (.bool true), s) := by
  cases x with
  | none => cases h
  | some p =>
    obtain ⟨v, s⟩ := p
    cases v with
    | v v => cases v with
      | bool b => cases b with
        | true => exact ⟨s, rfl⟩
        | false => cases h
      | _ => cases h
    | _ => cases h

/-- A CLOSED CALL THAT ANSWERS TRUE: in whatever later world. -/
theorem closed_true {tb : Tab} {w0 w : World} {L : List (String × DataW Unit)} {bs : List (Nat × List AV)} (hT : TabOk tb w0) (hl : laidMet tb.p L w0) (hw : Below w0.heap.size w0 w) (h : layVars tb.p tb.g L tb.g = some (bs, tb.l)) {h0 : Tr HO} (h0e : heapOf bs = h0) {f : FuncId} {d : Nat}
    (hr : isTrue (callA tb d tb.l [] f [] ⟨h0, tb.l⟩) = true) : Calls tb.p f #[] w fun e w' => e = .returned (.bool true) ∧ Below w.heap.size w w' := by
  obtain ⟨s', h1⟩ := isTrue_some hr
  obtain ⟨ρ, hs⟩ := start_sat hl hw h
  rw [h0e] at hs
  refine (callA_ok hT d G0 _ _ _ _ _ _ _ h1 ρ w hs trivial).mono ?_
  rintro e w' ⟨ρ', rfl, h2, _⟩
  have fr := @Stp.fr G0 _ _ _ _ _ _ _ _ h2
  exact ⟨rfl, fr.os, fr.tape, fr.output, fr.size, fun r hr => fr.block r hr (fun b o h3 h4 => absurd h3 (Nat.not_le.2 (@SatH.lt G0 _ _ _ _ _ hs b o h4)))⟩
end Ev
end Go.Proofs.YtipjmaimjchckaaGreatDoor

