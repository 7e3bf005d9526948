/- REGIONS in the order of the text are right. -/
import Derived.Test.YtipjmaimjchckaaGreatDoorMB
import Derived.Orders
/-! REGIONS in the order of the text are right. -/
set_option linter.unusedSimpArgs false
set_option linter.unusedVariables false
set_option linter.unusedSectionVars false
namespace Go.Proofs.YtipjmaimjchckaaGreatDoor
open Go.RowKit
namespace Ev

variable [Gh]
/-- The slots of a frame fit. -/
structure SatT (N : Nat) (ρ : Env) (n : Nat) (a : Act) (t : TE) : Prop where
  size : a.tmps.size = N
  val : ∀ i v, getA t i = some v → Sc n v ∧ i < N ∧ a.tmps[i]? = some (den ρ v)
def DefsOk (ρ : Env) (n : Nat) : DL → List Deferred → Prop
  | [], [] => True
  | x :: l, d :: ds => DefOk ρ n x d ∧ DefsOk ρ n l ds
  | _, _ => False

section
variable {tb : Tab} {w0 : World} {ρ ρ' : Env} {cx : Cx} {s s' : Hs} {w : World} {a : Act} {t t' : TE} {call : CallT} {v : AV} {N n m : Nat}

theorem denL_map_ext (h : Ext n ρ ρ') {l : List AV} (hl : ScL n l) : l.map (den ρ') = l.map (den ρ) := by
  rw [← denL_eq, ← denL_eq]; exact denL_ext h l hl
theorem DefOk.ext (h : Ext n ρ ρ') (hm : n ≤ m) {x : FuncId × List AV} {d : Deferred} (hd : DefOk ρ n x d) : DefOk ρ' m x d := by
  obtain ⟨h1, cap, args, h2, h3⟩ := hd
  exact ⟨ScL.mono hm _ h1, cap, args, h2, by rw [denL_map_ext h h1]; exact h3⟩
theorem DefsOk.ext (h : Ext n ρ ρ') (hm : n ≤ m) : ∀ {dl : DL} {ds : List Deferred}, DefsOk ρ n dl ds → DefsOk ρ' m dl ds
  | [], [], _ => trivial
  | _ :: _, _ :: _, hd => ⟨hd.1.ext h hm, DefsOk.ext h hm hd.2⟩
  | [], _ :: _, hd => hd.elim
  | _ :: _, [], hd => hd.elim
theorem SatT.ext (h : Ext n ρ ρ') (hm : n ≤ m) (ht : SatT N ρ n a t) : SatT N ρ' m a t :=
  ⟨ht.size, fun i v hv => by
    obtain ⟨h1, h2, h3⟩ := ht.val i v hv
    exact ⟨Sc.mono hm _ h1, h2, by rw [den_ext h _ h1]; exact h3⟩⟩

omit [Gh] in
theorem put_some {d : Option Tmp} (h : put N t d v = some t') : (d = none ∧ t' = t) ∨ ∃ k, d = some k ∧ k < N ∧ t' = setA t k v := by
  cases d with
  | none => cases h; exact .inl ⟨rfl, rfl⟩
  | some k =>
    obtain ⟨h1, h2⟩ := gd_some.1 h
    cases h2
    exact .inr ⟨k, rfl, ble_iff.1 h1, rfl⟩
theorem SatT.put (ht : SatT N ρ n a t) {d : Option Tmp} (h : put N t d v = some t') (hv : Sc n v) : SatT N ρ n (a.put d (den ρ v)) t' := by
  rcases put_some h with ⟨rfl, rfl⟩ | ⟨k, rfl, hk, rfl⟩
  · exact ht
  · refine ⟨by simp [Act.put, ht.size], fun i u hu => ?_⟩
    by_cases e : k = i
    · subst e
      rw [getA_set] at hu; cases hu
      exact ⟨hv, hk, by simp [Act.put, Array.getElem?_setIfInBounds, ht.size, hk]⟩
    · rw [getA_set_ne _ _ e] at hu
      obtain ⟨h1, h2, h3⟩ := ht.val i u hu
      exact ⟨h1, h2, by simp only [Act.put]; rw [Array.getElem?_setIfInBounds_ne e]; exact h3⟩
omit [Gh] in
theorem put_defers (a : Act) (d : Option Tmp) (v : Value) : (a.put d v).defers = a.defers := by cases d <;> rfl

theorem SatT.vals (ht : SatT N ρ s.n a t) (hs : SatH w0 ρ cx s w) (hg : cx.g = tb.g) (o : Op) : Vals tb ρ s.n a t o := by
  intro x _ v hv
  cases x with
  | tmp i =>
    obtain ⟨h1, h2, h3⟩ := ht.val i v hv
    exact ⟨h1, by simp [Act.eval, h3]⟩
  | const u => cases hv; exact ⟨trivial, rfl⟩
  | global g =>
    obtain ⟨h1, h2⟩ := gd_some.1 hv
    cases h2
    have h3 : g < cx.g := by have := ble_iff.1 h1; omega
    obtain ⟨h4, h5⟩ := hs.gl g h3
    refine ⟨?_, ?_⟩
    · show Gd s.n g
      refine ⟨?_, hs.glg g h3⟩
      have := hs.gn; have := hs.ln; have := hs.fln; omega
    · simp [Act.eval, den, h4, h5]
  | func f => cases hv; exact ⟨trivial, rfl⟩

omit [Gh] in
theorem gVal_some {want : Bool} {x : Value} {b : Bool} (h : gVal want x = some b) : ((match some x with | some (.bool b) => some b | _ => none) == some want) = b := by
  cases x with
  | bool c => cases h; cases want <;> cases c <;> rfl
  | _ => cases h; rfl
theorem wantA_some {all : List Oper} {ops : Array Oper} {o : Oper} {b : Bool} (hall : all = ops.toList) (h : wantA all t o = some b) (ht : SatT N ρ n a t) : Region.wanted o (yielded ops a.tmps) = b := by
  subst hall
  unfold wantA at h
  unfold Region.wanted
  cases hg : o.guard with
  | none => rw [hg] at h; cases h; rfl
  | some p =>
    rw [hg] at h
    obtain ⟨j, want⟩ := p
    obtain ⟨g, h1, h2⟩ := ob_some.1 h
    obtain ⟨d, h3, h4⟩ := ob_some.1 h2
    obtain ⟨x, h5, h6⟩ := ob_some.1 h4
    obtain ⟨u, rfl, h7⟩ := asV_some h6
    obtain ⟨_, _, h8⟩ := ht.val d _ h5
    rw [nth_eq, Array.getElem?_toList] at h1
    have := gVal_some h7
    simp only [yielded, h1, h3, Option.bind_some, h8, den]
    cases u <;> exact this

variable (hT : TabOk tb w0)
include hT

theorem seqOps_sound (hc : CallOk tb w0 call) (hg : cx.g = tb.g) (hl : cx.l = tb.l) {ops : Array Oper} {Q : Exit → Act → World → Prop} {st : St} (l : List Oper) :
    ∀ (t : TE) (s : Hs) (dl : DL), seqOps tb call cx N ops.toList l t s dl = some st → ∀ (ρ : Env) (w : World) (a : Act), SatH w0 ρ cx s w → SatT N ρ s.n a t → DefsOk ρ s.n dl a.defers →
    (∀ ρ' w' a', Stp w0 ρ ρ' cx s st.s w w' → SatT N ρ' st.s.n a' st.t → DefsOk ρ' st.s.n st.d a'.defers → Q .normal a' w') → wpList tb.p ops Q l a w := by
  induction l with
  | nil =>
    intro t s dl h ρ w a hs ht hd hq
    cases h
    exact hq ρ w a (Stp.refl hs) ht hd
  | cons o l ih =>
    intro t s dl h ρ w a hs ht hd hq
    obtain ⟨b, h1, h2⟩ := ob_some.1 h
    have hw := wantA_some rfl h1 ht
    unfold wpList
    rw [hw]
    cases b with
    | false =>
      obtain ⟨t1, h3, h4⟩ := ob_some.1 h2
      exact ih t1 s dl h4 ρ w _ hs (ht.put (v := und) h3 trivial) (by rw [put_defers]; exact hd) hq
    | true =>
      obtain ⟨r, h3, h4⟩ := ob_some.1 h2
      refine .inl ?_
      cases r with
      | ok v s1 =>
        obtain ⟨t1, h5, h6⟩ := ob_some.1 h4
        refine op_sound hT hc h3 hg hl hs (ht.vals hs hg _) fun ρ1 w1 hst hv => ?_
        refine ih t1 s1 dl h6 ρ1 w1 _ hst.sat ((ht.ext hst.ext hst.n).put h5 hv) (by rw [put_defers]; exact hd.ext hst.ext hst.n) fun ρ2 w2 a2 hst2 ht2 hd2 => ?_
        exact hq ρ2 w2 a2 (hst.trans hst2) ht2 hd2
      | dfr f xs =>
        obtain ⟨t1, h5, h6⟩ := ob_some.1 h4
        refine op_defer_sound hT h3 hs (ht.vals hs hg _) fun d hdk => ?_
        refine ih t1 s _ h6 ρ w _ hs ?_ (by rw [put_defers]; exact ⟨hdk, hd⟩) hq
        exact SatT.put (a := { a with defers := d :: a.defers }) (v := und) ⟨ht.size, ht.val⟩ h5 trivial

theorem seqRegion_sound (hc : CallOk tb w0 call) (hg : cx.g = tb.g) (hl : cx.l = tb.l) {id : Nat} {ops : Array Oper} {Q : Exit → Act → World → Prop} {st st' : St}
    (h : region tb call cx N ops false st = some st') (hs : SatH w0 ρ cx st.s w) (ht : SatT N ρ st.s.n a st.t) (hd : DefsOk ρ st.s.n st.d a.defers)
    (hq : ∀ ρ' w' a', Stp w0 ρ ρ' cx st.s st'.s w w' → SatT N ρ' st'.s.n a' st'.t → DefsOk ρ' st'.s.n st'.d a'.defers → Q .normal a' w') : (Code.region id ops false).wp tb.p Q a w :=
  wp_region_list (seqOps_sound hT hc hg hl _ _ _ _ h ρ w a hs ht hd hq)
end
end Ev
end Go.Proofs.YtipjmaimjchckaaGreatDoor

/-! What an evaluation leaves of a heap as it was: without a world in sight. -/
set_option linter.unusedSimpArgs false
set_option linter.unusedVariables false
set_option linter.unusedSectionVars false
namespace Go.Proofs.YtipjmaimjchckaaGreatDoor
open Go.RowKit
namespace Ev

/-- Blocks that are hidden or below the floor stay; nothing comes to lie above the heap's end. -/
def Fq (fl : Nat) (hid : Hid) (s s' : Hs) : Prop :=
  s.n ≤ s'.n ∧ (∀ b, b < s.n → (b < fl ∨ hidden hid b = true) → s'.h.get b = s.h.get b) ∧ (∀ b o, s'.n ≤ b → s'.h.get b = some o → ∃ o', s.h.get b = some o')
theorem Fq.refl (fl : Nat) (hid : Hid) (s : Hs) : Fq fl hid s s := ⟨Nat.le_refl _, fun _ _ _ => rfl, fun _ o _ h => ⟨o, h⟩⟩
theorem Fq.trans {fl : Nat} {hid : Hid} {s s1 s2 : Hs} (h : Fq fl hid s s1) (h' : Fq fl hid s1 s2) : Fq fl hid s s2 :=
  ⟨Nat.le_trans h.1 h'.1, fun b hb hc => by rw [h'.2.1 b (Nat.lt_of_lt_of_le hb h.1) hc, h.2.1 b hb hc], fun b o hb ho => by
    obtain ⟨o1, h1⟩ := h'.2.2 b o hb ho
    exact h.2.2 b o1 (Nat.le_trans h'.1 hb) h1⟩
theorem Fq.mono {fl fl' : Nat} {hid hid' : Hid} {s s' : Hs} (h : Fq fl' hid' s s') (hm : ∀ b, b < s.n → (b < fl ∨ hidden hid b = true) → b < fl' ∨ hidden hid' b = true) : Fq fl hid s s' :=
  ⟨h.1, fun b hb hc => h.2.1 b hb (hm b hb hc), h.2.2⟩
theorem Fq.new (fl : Nat) (hid : Hid) (s : Hs) (o : HO) : Fq fl hid s ⟨s.h.set s.n o, s.n + 1⟩ :=
  ⟨Nat.le_succ _, fun b hb _ => Tr.get_set_ne _ _ (by omega), fun b x hb hx => by
    have hb : s.n + 1 ≤ b := hb
    have hx : (s.h.set s.n o).get b = some x := hx
    rw [Tr.get_set_ne _ _ (by omega)] at hx
    exact ⟨x, hx⟩⟩
theorem Fq.put {fl : Nat} {hid : Hid} {s : Hs} {b : Nat} {o : HO} (o' : HO) (hb : s.look hid b = some o) (hf : fl ≤ b) : Fq fl hid s ⟨s.h.set b o', s.n⟩ := by
  obtain ⟨h1, h2⟩ := Hs.look_some.1 hb
  refine ⟨Nat.le_refl _, fun c hc hor => Tr.get_set_ne _ _ (fun e => ?_), fun c x hc hx => ?_⟩
  · subst e
    rcases hor with h | h
    · omega
    · rw [h1] at h; cases h
  · by_cases e : b = c
    · subst e; exact ⟨o, h2⟩
    · have hx : (s.h.set b o').get c = some x := hx
      rw [Tr.get_set_ne _ _ e] at hx; exact ⟨x, hx⟩
theorem Fq.move {fl : Nat} {hid : Hid} {s : Hs} {b : Nat} {o : HO} (o' : HO) (hb : s.look hid b = some o) (hf : fl ≤ b) : Fq fl hid s ⟨(s.h.del b).set s.n o', s.n + 1⟩ := by
  obtain ⟨h1, h2⟩ := Hs.look_some.1 hb
  refine ⟨Nat.le_succ _, fun c hc hor => ?_, fun c x hc hx => ?_⟩
  · show ((s.h.del b).set s.n o').get c = _
    rw [Tr.get_set_ne _ _ (by omega), Tr.get_del_ne _ (fun e => ?_)]
    subst e
    rcases hor with h | h
    · omega
    · rw [h1] at h; cases h
  · have hc : s.n + 1 ≤ c := hc
    have hx : ((s.h.del b).set s.n o').get c = some x := hx
    rw [Tr.get_set_ne _ _ (by omega)] at hx
    by_cases e : b = c
    · subst e; exact ⟨o, h2⟩
    · rw [Tr.get_del_ne _ e] at hx; exact ⟨x, hx⟩

def FrR (cx : Cx) (s : Hs) (r : Res) : Prop := ∀ v s', r = some (.ok v s') → Fq cx.fl cx.hid s s'
def CallFr (call : CallT) : Prop := ∀ fl hid f xs s v s', call fl hid f xs s = some (v, s') → Fq fl hid s s'
section
variable {cx : Cx} {s : Hs}
theorem fr_none : FrR cx s none := fun _ _ h => by cases h
theorem fr_ret {x : AV} : FrR cx s (ret x s) := fun _ _ h => by cases h; exact Fq.refl _ _ _
theorem fr_ret' {x : AV} {y : Hs} (h : Fq cx.fl cx.hid s y) : FrR cx s (ret x y) := fun _ _ e => by cases e; exact h
theorem fr_ob {α : Type} {x : Option α} {k : α → Res} (h : ∀ z, FrR cx s (k z)) : FrR cx s (ob x k) := fun f xs e => by obtain ⟨z, _, e2⟩ := ob_some.1 e; exact h z f xs e2
theorem fr_ob' {α : Type} {x : Option α} {k : α → Res} (h : ∀ z, x = some z → FrR cx s (k z)) : FrR cx s (ob x k) := fun f xs e => by obtain ⟨z, e1, e2⟩ := ob_some.1 e; exact h z e1 f xs e2
theorem fr_gd' {b : Bool} {x : Res} (h : b = true → FrR cx s x) : FrR cx s (gd b x) := fun f xs e => h (gd_some.1 e).1 f xs (gd_some.1 e).2
theorem fr_gd {b : Bool} {x : Res} (h : FrR cx s x) : FrR cx s (gd b x) := fun f xs e => h f xs (gd_some.1 e).2
theorem fr_retO {x : Option AV} : FrR cx s (retO x s) := fr_ob fun _ => fr_ret
theorem fr_retV {x : Option Value} : FrR cx s (retV x s) := fr_ob fun _ => fr_ret
theorem fr_asV {x : AV} {k : Value → Res} (h : ∀ z, FrR cx s (k z)) : FrR cx s (asV x k) := fun f xs e => by obtain ⟨z, _, e2⟩ := asV_some e; exact h z f xs e2
theorem fr_asPtr {x : AV} {k : Nat → Nat → Res} (h : ∀ y z, FrR cx s (k y z)) : FrR cx s (asPtr x k) := fun f xs e => by obtain ⟨y, z, _, e2⟩ := asPtr_some e; exact h y z f xs e2
theorem fr_asBool {x : AV} {k : Bool → Res} (h : ∀ z, FrR cx s (k z)) : FrR cx s (asBool x k) := fun f xs e => by obtain ⟨z, _, e2⟩ := asBool_some e; exact h z f xs e2
theorem fr_asNat {x : AV} {k : Nat → Res} (h : ∀ z, FrR cx s (k z)) : FrR cx s (asNat x k) := fun f xs e => by obtain ⟨_, z, _, e2⟩ := asNat_some e; exact h z f xs e2
theorem fr_rowC {x : HO} {k : List AV → Res} (h : ∀ z, FrR cx s (k z)) : FrR cx s (rowC x k) := fun f xs e => by obtain ⟨z, _, e2⟩ := rowC_some e; exact h z f xs e2
theorem fr_rowW {x : HO} {k : List AV → Res} (h : ∀ z, FrR cx s (k z)) : FrR cx s (rowW x k) := fun f xs e => by obtain ⟨z, _, e2⟩ := rowW_some e; exact h z f xs e2
theorem fr_elemK {x : TyK} {k : TypeId → Res} (h : ∀ z, FrR cx s (k z)) : FrR cx s (elemK x k) := fun f xs e => by obtain ⟨z, _, e2⟩ := elemK_some e; exact h z f xs e2
theorem fr_structK {x : TyK} {k : List (Nat × Nat × Bool) → Res} (h : ∀ z, FrR cx s (k z)) : FrR cx s (structK x k) := fun f xs e => by obtain ⟨z, _, e2⟩ := structK_some e; exact h z f xs e2
theorem fr_fnF {x : Fn} {k : FuncId → Res} (h : ∀ z, FrR cx s (k z)) : FrR cx s (fnF x k) := fun f xs e => by obtain ⟨z, _, e2⟩ := fnF_some e; exact h z f xs e2
theorem fr_two {α : Type} {l : List α} {k : α → α → Res} (h : ∀ y z, FrR cx s (k y z)) : FrR cx s (two l k) := fun f xs e => by obtain ⟨y, z, _, _, e2⟩ := two_some e; exact h y z f xs e2
theorem fr_el {fv : Value → Res} {fp : Nat → Nat → Res} {fs fu : Nat → Nat → Nat → Nat → Res} {ff : Fn → List AV → List AV → Res} {fi : TypeId → AV → Res} {fa ft : List AV → Res} {fm : Nat → Res} {x : AV}
    (h1 : ∀ a, FrR cx s (fv a)) (h2 : ∀ a b, FrR cx s (fp a b)) (h3 : ∀ a b c d, FrR cx s (fs a b c d)) (h4 : ∀ a b c d, FrR cx s (fu a b c d)) (h5 : ∀ a b c, FrR cx s (ff a b c)) (h6 : ∀ a b, FrR cx s (fi a b)) (h7 : ∀ a, FrR cx s (fa a)) (h8 : ∀ a, FrR cx s (ft a)) (h9 : ∀ a, FrR cx s (fm a)) :
    FrR cx s (AV.el fv fp fs fu ff fi fa ft fm x) := by
  cases x
  · exact h1 _
  · exact h2 _ _
  · exact h3 _ _ _ _
  · exact h4 _ _ _ _
  · exact h5 _ _ _
  · exact h6 _ _
  · exact h7 _
  · exact h8 _
  · exact h9 _
theorem fr_vel {fb : Bool → Res} {fi : IntKind → Int → Res} {fs : ByteArray → Res} {fsl : Option Addr → Nat → Nat → Res} {ff : Fn → Array Value → Array Value → Res} {fa ft : Array Value → Res} {fo : Res} {x : Value}
    (h1 : ∀ a, FrR cx s (fb a)) (h2 : ∀ a b, FrR cx s (fi a b)) (h3 : ∀ a, FrR cx s (fs a)) (h4 : ∀ a b c, FrR cx s (fsl a b c)) (h5 : ∀ a b c, FrR cx s (ff a b c)) (h6 : ∀ a, FrR cx s (fa a)) (h7 : ∀ a, FrR cx s (ft a)) (h8 : FrR cx s fo) : FrR cx s (vel fb fi fs fsl ff fa ft fo x) := by
  cases x <;> first | exact h1 _ | exact h2 _ _ | exact h3 _ | exact h4 _ _ _ | exact h5 _ _ _ | exact h6 _ | exact h7 _ | exact h8
theorem fr_orE {x y : Res} (h : FrR cx s x) (h' : FrR cx s y) : FrR cx s (orE x y) := fun f xs e => by rcases orE_some e with e | e; exact h f xs e; exact h' f xs e
theorem fr_bool {b : Bool} {x y : Res} (h : FrR cx s x) (h' : FrR cx s y) : FrR cx s (Bool.rec (motive := fun _ => Res) x y b) := by cases b; exact h; exact h'
theorem fr_fnV {f : AV} {xs : List AV} {k : FuncId → List AV → Res} (h : ∀ y z, FrR cx s (k y z)) : FrR cx s (fnV f xs k) :=
  fr_el (fun _ => fr_vel (fun _ => fr_none) (fun _ _ => fr_none) (fun _ => fr_none) (fun _ _ _ => fr_none) (fun _ _ _ => fr_fnF fun _ => h _ _) (fun _ => fr_none) (fun _ => fr_none) fr_none)
    (fun _ _ => fr_none) (fun _ _ _ _ => fr_none) (fun _ _ _ _ => fr_none) (fun _ _ _ => fr_fnF fun _ => h _ _) (fun _ _ => fr_none) (fun _ => fr_none) (fun _ => fr_none) (fun _ => fr_none)

theorem fr_new {x : AV} {o : HO} : FrR cx s (ret x ⟨s.h.set s.n o, s.n + 1⟩) := fr_ret' (Fq.new _ _ _ _)
theorem fr_call {call : CallT} (hc : CallFr call) {f : FuncId} {xs : List AV} : FrR cx s (retP (call cx.fl cx.hid f xs s)) := fun v s' e => by
  obtain ⟨p, h1, h2⟩ := ob_some.1 e
  cases h2
  exact hc _ _ _ _ _ p.1 p.2 h1
end

theorem op_fr {tb : Tab} {call : CallT} {cx : Cx} {t : TE} {s : Hs} (hc : CallFr call) (op : Op) : FrR cx s (opv tb op call cx t s) := by
  cases op with
  | move x => exact (fr_retO)
  | assign x => exact (fr_retO)
  | pick x y z => exact (fr_ob (fun _ => fr_asBool fun _ => fr_retO))
  | alloc e => exact (fr_ob (fun _ => fr_new))
  | box e x => exact (fr_ob (fun _ => fr_new))
  | build e ps => exact (fr_ob (fun _ => fr_ob fun _ => fr_ob fun _ => fr_ob fun _ => fr_ret))
  | buildSlice e n ps => exact (fr_ob (fun _ => fr_elemK fun _ => fr_ob fun _ => fr_gd (fr_ob fun _ => fr_ob fun _ => fr_new)))
  | load e x => exact (fr_ob (fun _ => fr_ob fun _ => fr_asPtr fun _ _ => fr_ob fun _ => fr_rowC fun _ => fr_retO))
  | store e x y => exact (fr_ob (fun _ => fr_ob fun _ => fr_ob fun _ => fr_asPtr fun _ _ => fr_gd' fun hb => fr_ob' fun _ hl => fr_rowW fun _ => fr_gd (fr_ret' (Fq.put _ hl (ble_iff.1 hb)))))
  | nilCheck x =>
    refine (fr_ob (fun y => ?_))
    exact fr_el (fun _ => fr_vel (fun _ => fr_none) (fun _ _ => fr_none) (fun _ => fr_none) (fun _ _ _ => fr_none) (fun _ _ _ => fr_gd fr_ret) (fun _ => fr_none) (fun _ => fr_none) fr_none) (fun _ _ => fr_ret) (fun _ _ _ _ => fr_none) (fun _ _ _ _ => fr_none) (fun _ _ _ => fr_gd fr_ret) (fun _ _ => fr_none) (fun _ => fr_none) (fun _ => fr_none) (fun _ => fr_none)
  | binOp b xt x y yt => exact (fr_ob (fun _ => fr_ob fun _ => fr_retV))
  | unOp b xt x => exact (fr_ob (fun _ => fr_retV))
  | convert a b x => exact (fr_ob (fun _ => fr_orE fr_retV (fr_ob fun _ => fr_gd (fr_ob fun _ => fr_elemK fun _ => fr_ob fun _ => fr_gd (fr_asV fun _ => fr_vel (fun _ => fr_none) (fun _ _ => fr_none) (fun _ => fr_new) (fun _ _ _ => fr_none) (fun _ _ _ => fr_none) (fun _ => fr_none) (fun _ => fr_none) fr_none)))))
  | makeInterface e x => exact (fr_ob (fun _ => fr_gd (fr_ob fun _ => fr_ret)))
  | makeFunc f' x y => exact (fr_ob (fun _ => fr_ob fun _ => fr_ret))
  | makeSlice e x y => exact (fr_ob (fun _ => fr_elemK fun _ => fr_ob fun _ => fr_ob fun _ => fr_ob fun _ => fr_asNat fun _ => fr_asNat fun _ => fr_gd fr_new))
  | slice e x lo hi mx => exact (fr_ob (fun _ => fr_ob fun _ => fr_retO))
  | fieldAddr e x n => exact (fr_ob (fun _ => fr_structK fun _ => fr_ob fun _ => fr_gd (fr_ob fun _ => fr_asPtr fun _ _ => fr_ret)))
  | field e x n =>
    refine (fr_ob (fun _ => fr_structK fun _ => fr_ob fun _ => fr_ob fun y => ?_))
    exact fr_el (fun _ => fr_vel (fun _ => fr_none) (fun _ _ => fr_none) (fun _ => fr_none) (fun _ _ _ => fr_none) (fun _ _ _ => fr_none) (fun _ => fr_retO) (fun _ => fr_none) fr_none) (fun _ _ => fr_none) (fun _ _ _ _ => fr_none) (fun _ _ _ _ => fr_none) (fun _ _ _ => fr_none) (fun _ _ => fr_none) (fun _ => fr_retO) (fun _ => fr_none) (fun _ => fr_none)
  | indexAddr e x y =>
    refine (fr_ob (fun i => fr_ob fun X => fr_ob fun _ => fr_asNat fun j => ?_))
    cases i.k with
    | slice el => exact fr_ob fun _ => fr_el (fun _ => fr_none) (fun _ _ => fr_none) (fun _ _ _ _ => fr_gd fr_ret) (fun _ _ _ _ => fr_gd fr_ret) (fun _ _ _ => fr_none) (fun _ _ => fr_none) (fun _ => fr_none) (fun _ => fr_none) (fun _ => fr_none)
    | arr n el => exact fr_ob fun _ => fr_asPtr fun _ _ => fr_gd fr_ret
    | _ => exact fr_none
  | index e x y =>
    refine (fr_ob (fun i => fr_ob fun X => fr_ob fun _ => fr_asNat fun j => ?_))
    cases i.k with
    | str => exact fr_asV fun _ => fr_retV
    | arr n el =>
      refine fr_ob fun _ => fr_gd ?_
      exact fr_el (fun _ => fr_vel (fun _ => fr_none) (fun _ _ => fr_none) (fun _ => fr_none) (fun _ _ _ => fr_none) (fun _ _ _ => fr_none) (fun _ => fr_retO) (fun _ => fr_none) fr_none) (fun _ _ => fr_none) (fun _ _ _ _ => fr_none) (fun _ _ _ _ => fr_none) (fun _ _ _ => fr_none) (fun _ _ => fr_none) (fun _ => fr_retO) (fun _ => fr_none) (fun _ => fr_none)
    | _ => exact fr_none
  | range e x => exact (fr_ob (fun _ => fr_gd (fr_ob fun _ => fr_asV fun _ => fr_vel (fun _ => fr_none) (fun _ _ => fr_none) (fun _ => fr_new) (fun _ _ _ => fr_none) (fun _ _ _ => fr_none) (fun _ => fr_none) (fun _ => fr_none) fr_none)))
  | next x b =>
    refine (fr_gd (fr_ob fun _ => fr_asPtr fun b _ => fr_gd' fun hb => fr_ob' fun o hl => ?_))
    rw [band_eq, Bool.and_eq_true] at hb
    cases o with
    | iter bs p =>
      show FrR cx s (nextS bs p _ _)
      unfold nextS
      cases nth bs.data.toList p with
      | none => exact fr_gd fr_ret
      | some c => exact fr_gd (fr_ret' (Fq.put _ hl (ble_iff.1 hb.2)))
    | _ => exact fr_none
  | extract x n => exact (fr_ob (fun _ => fr_retO))
  | call c =>
    obtain ⟨callee, args, ts⟩ := c
    refine fr_ob fun ys => ?_
    cases callee with
    | invoke r m => exact fr_none
    | value fo =>
      refine (fr_ob (fun F => fr_fnV fun y z => ?_))
      cases tb.orc y z with
      | some u => exact fr_ret
      | none =>
        cases tb.fn.get y with
        | none => exact fr_ob fun _ => fr_retV
        | some fn => exact fr_call hc
    | builtin b =>
      cases b with
      | min => exact (fr_ob (fun _ => fr_retV))
      | max => exact (fr_ob (fun _ => fr_retV))
      | append =>
        show FrR cx s (biAppend tb ts.toList ys cx s)
        refine (fr_two (fun t1 t2 => fr_two fun x y => fr_ob fun i => fr_elemK fun e => fr_ob fun ei => fr_ob fun i2 => fr_gd (fr_ob fun p => ?_)))
        refine fr_el (fun _ => fr_vel (fun _ => fr_none) (fun _ _ => fr_none) (fun _ => fr_none) (fun _ _ _ => fr_gd (fr_gd (fr_bool (fr_gd fr_new) fr_ret))) (fun _ _ _ => fr_none) (fun _ => fr_none) (fun _ => fr_none) fr_none) (fun _ _ => fr_none)
          (fun _ _ _ _ => fr_gd (fr_ob' fun _ hl => fr_rowC fun _ => fr_bool (fr_ob fun _ => fr_new) (fr_gd' fun hb => fr_rowW fun _ => fr_gd (fr_ret' (Fq.put _ hl (ble_iff.1 hb)))))) (fun _ _ _ _ => fr_gd (fr_ob' fun o hl => ?_)) (fun _ _ _ => fr_none) (fun _ _ => fr_none) (fun _ => fr_none) (fun _ => fr_none) (fun _ => fr_none)
        cases o with
        | rowU c es =>
          refine fr_gd' fun hb => ?_
          rw [band_eq, Bool.and_eq_true] at hb
          exact fr_bool (fr_gd (fr_ob fun _ => fr_ret' (Fq.move _ hl (ble_iff.1 hb.2)))) (fr_gd (fr_gd (fr_ret' (Fq.put _ hl (ble_iff.1 hb.2)))))
        | _ => exact fr_none
      | len =>
        show FrR cx s (biLen tb ts.toList ys s)
        unfold biLen
        cases ts.toList with
        | nil => exact fr_none
        | cons t1 tr =>
          cases ys with
          | nil => exact fr_none
          | cons y yr =>
            refine fr_ob (fun i => ?_)
            cases i.k with
            | str => exact fr_asV fun _ => fr_vel (fun _ => fr_none) (fun _ _ => fr_none) (fun _ => fr_ret) (fun _ _ _ => fr_none) (fun _ _ _ => fr_none) (fun _ => fr_none) (fun _ => fr_none) fr_none
            | slice el => exact fr_ob fun _ => fr_ret
            | _ => exact fr_none
      | _ => exact fr_none
  | defer c =>
    obtain ⟨callee, args, ts⟩ := c
    intro v s' h
    obtain ⟨xs, h1, h2⟩ := ob_some.1 h
    cases callee with
    | builtin b => cases h2
    | invoke r m => cases h2
    | value f =>
      obtain ⟨F, h3, h4⟩ := ob_some.1 h2
      letI : Gh := ⟨fun _ => False⟩
      cases F with
      | v F =>
        cases F with
        | func g fi ca => obtain ⟨g, rfl, h5⟩ := fnF_some h4; cases h5
        | _ => cases h4
      | fn g fi ca => obtain ⟨g, rfl, h5⟩ := fnF_some h4; cases h5
      | _ => cases h4
  | _ => exact fr_none
end Ev
end Go.Proofs.YtipjmaimjchckaaGreatDoor

/-! REGIONS THAT DRAW: the run in the order of the text, and what its checks tell. No world in sight. -/
set_option linter.unusedSimpArgs false
set_option linter.unusedVariables false
set_option linter.unusedSectionVars false
namespace Go.Proofs.YtipjmaimjchckaaGreatDoor
open Go.RowKit
namespace Ev

/-- How an operation was carried out. -/
structure Md where
  skip : Bool
  fl : Nat
  hid : Hid
  see : See
  wr : See
  v : AV
def meetsB (x : See) (b : Nat) : Prop := x = .all ∨ x = .one b
theorem meets_of {x y : See} {b : Nat} (hx : meetsB x b) (hy : meetsB y b) : meets x y = true := by
  rcases hx with rfl | rfl <;> rcases hy with rfl | rfl <;> first | rfl | exact Nat.beq_refl b

theorem hidden_others (a : Nat) (h : Hid) (b : Nat) (iv : List (Nat × Nat × Nat)) :
    hidden (others a iv h) b = true ↔ (∃ p ∈ iv, bit a p.1 = false ∧ p.2.1 ≤ b ∧ b < p.2.2) ∨ hidden h b = true := by
  induction iv with
  | nil => exact ⟨.inr, fun h => h.elim (fun ⟨_, h, _⟩ => by cases h) id⟩
  | cons p l ih =>
    show hidden (Bool.rec (motive := fun _ => Hid) (p.2 :: others a l h) (others a l h) (bit a p.1)) b = true ↔ _
    cases hb : bit a p.1 with
    | true =>
      show hidden (others a l h) b = true ↔ _
      rw [ih]
      constructor
      · rintro (⟨q, h1, h2⟩ | h1)
        · exact .inl ⟨q, List.mem_cons_of_mem _ h1, h2⟩
        · exact .inr h1
      · rintro (⟨q, h1, h2, h3⟩ | h1)
        · rcases List.mem_cons.1 h1 with rfl | h1
          · rw [hb] at h2; cases h2
          · exact .inl ⟨q, h1, h2, h3⟩
        · exact .inr h1
    | false =>
      show hidden (p.2 :: others a l h) b = true ↔ _
      rw [hidden_cons, Bool.or_eq_true, ih, decide_eq_true_iff]
      constructor
      · rintro (h1 | ⟨q, h1, h2⟩ | h1)
        · exact .inl ⟨p, List.mem_cons_self, hb, h1⟩
        · exact .inl ⟨q, List.mem_cons_of_mem _ h1, h2⟩
        · exact .inr h1
      · rintro (⟨q, h1, h2, h3⟩ | h1)
        · rcases List.mem_cons.1 h1 with rfl | h1
          · exact .inl h3
          · exact .inr (.inl ⟨q, h1, h2, h3⟩)
        · exact .inr (.inr h1)

theorem hidden_false_cons {p : Nat × Nat} {l : Hid} {b : Nat} (h : hidden (p :: l) b = false) : ¬ (p.1 ≤ b ∧ b < p.2) ∧ hidden l b = false := by
  rw [hidden_cons, Bool.or_eq_false_iff, decide_eq_false_iff_not] at h; exact h

section
variable {tb : Tab} {call : CallT} {cx : Cx} {N : Nat}

/-- What is known of the floor and of what is hidden. -/
structure Seen (cx : Cx) (a : Nat) (d : Ds) (m : Md) : Prop where
  fl : cx.fl ≤ d.s.n → cx.fl ≤ m.fl ∧ m.fl ≤ d.s.n
  hid : ∀ b, b < d.s.n → hidden m.hid b = false → hidden cx.hid b = false ∧ (∀ p ∈ d.iv, p.2.1 ≤ b → b < p.2.2 → bit a p.1 = true) ∧ meetsB m.see b
  wr : ∀ b, b < d.s.n → m.fl ≤ b → hidden m.hid b = false → meetsB m.wr b
  mono : ∀ b, b < d.s.n → (b < cx.fl ∨ hidden cx.hid b = true) → b < m.fl ∨ hidden m.hid b = true
  up : (∀ p ∈ d.iv, p.2.2 ≤ d.s.n) → (∀ b, d.s.n ≤ b → hidden cx.hid b = false) → ∀ b, d.s.n ≤ b → hidden m.hid b = false

theorem seen_zero {a : Nat} {d : Ds} {m : Md} (h1 : m.fl = d.s.n) (h2 : m.hid = [(0, d.s.n)]) : Seen cx a d m where
  fl := fun h => by rw [h1]; exact ⟨h, Nat.le_refl _⟩
  hid := fun b hb hh => by rw [h2] at hh; exact absurd ⟨Nat.zero_le _, hb⟩ (hidden_false_cons hh).1
  wr := fun b hb hf => by rw [h1] at hf; omega
  mono := fun b hb _ => by rw [h1]; exact .inl hb
  up := fun _ _ b hb => by rw [h2, hidden_cons, Bool.or_eq_false_iff, decide_eq_false_iff_not]; exact ⟨fun h => absurd h.2 (by simp; omega), rfl⟩

theorem others_false {a : Nat} {iv : List (Nat × Nat × Nat)} {h : Hid} {b : Nat} (hh : hidden (others a iv h) b = false) :
    hidden h b = false ∧ ∀ p ∈ iv, p.2.1 ≤ b → b < p.2.2 → bit a p.1 = true := by
  refine ⟨?_, fun p hp h1 h2 => ?_⟩
  · cases hc : hidden h b with
    | false => rfl
    | true => rw [(hidden_others a h b iv).2 (.inr hc)] at hh; cases hh
  · cases hc : bit a p.1 with
    | true => rfl
    | false => rw [(hidden_others a h b iv).2 (.inl ⟨p, hp, hc, h1, h2⟩)] at hh; cases hh
theorem others_up {a : Nat} {iv : List (Nat × Nat × Nat)} {h : Hid} {b n : Nat} (h1 : ∀ p ∈ iv, p.2.2 ≤ n) (h2 : hidden h b = false) (hb : n ≤ b) : hidden (others a iv h) b = false := by
  cases hc : hidden (others a iv h) b with
  | false => rfl
  | true =>
    rcases (hidden_others a h b iv).1 hc with ⟨p, hp, _, _, h4⟩ | h3
    · have := h1 p hp; omega
    · rw [h2] at h3; cases h3

theorem seen_all {a : Nat} {d : Ds} {m : Md} (h1 : (m.fl = d.s.n ∧ m.wr = .no) ∨ (m.fl = cx.fl ∧ m.wr = .all)) (h2 : m.hid = others a d.iv cx.hid) (h3 : m.see = .all) : Seen cx a d m where
  fl := fun h => by rcases h1 with ⟨h1, _⟩ | ⟨h1, _⟩ <;> rw [h1] <;> simp [h]
  hid := fun b hb hh => by
    rw [h2] at hh
    exact ⟨(others_false hh).1, (others_false hh).2, .inl h3⟩
  wr := fun b hb hf hh => by
    rcases h1 with ⟨h1, _⟩ | ⟨_, h1⟩
    · omega
    · exact .inl h1
  mono := fun b hb hor => by
    rcases h1 with ⟨h1, _⟩ | ⟨h1, _⟩
    · rw [h1]; exact .inl hb
    · rcases hor with h4 | h4
      · rw [h1]; exact .inl h4
      · rw [h2]; exact .inr ((hidden_others _ _ _ _).2 (.inr h4))
  up := fun h4 h5 b hb => by rw [h2]; exact others_up h4 (h5 b hb) hb
theorem seen_one {a c : Nat} {d : Ds} {m : Md} (h1 : (m.fl = d.s.n ∧ m.wr = .no) ∨ (m.fl = cx.fl ∧ m.wr = .one c)) (h2 : m.hid = (0, c) :: (c + 1, d.s.n) :: others a d.iv cx.hid) (h3 : m.see = .one c) (hc : c < d.s.n) : Seen cx a d m where
  fl := fun h => by rcases h1 with ⟨h1, _⟩ | ⟨h1, _⟩ <;> rw [h1] <;> simp [h]
  hid := fun b hb hh => by
    rw [h2] at hh
    obtain ⟨k1, k2⟩ := hidden_false_cons hh
    obtain ⟨k3, k4⟩ := hidden_false_cons k2
    have : b = c := by simp at k1 k3; omega
    subst this
    exact ⟨(others_false k4).1, (others_false k4).2, .inr h3⟩
  wr := fun b hb hf hh => by
    rcases h1 with ⟨h1, _⟩ | ⟨_, h1⟩
    · omega
    · rw [h2] at hh
      obtain ⟨k1, k2⟩ := hidden_false_cons hh
      obtain ⟨k3, k4⟩ := hidden_false_cons k2
      have : b = c := by simp at k1 k3; omega
      subst this; exact .inr h1
  mono := fun b hb hor => by
    rcases h1 with ⟨h1, _⟩ | ⟨h1, _⟩
    · rw [h1]; exact .inl hb
    · rcases hor with h4 | h4
      · rw [h1]; exact .inl h4
      · rw [h2, hidden_cons, hidden_cons, (hidden_others _ _ _ _).2 (.inr h4)]; simp
  up := fun h4 h5 b hb => by
    rw [h2, hidden_cons, Bool.or_eq_false_iff, decide_eq_false_iff_not, hidden_cons, Bool.or_eq_false_iff, decide_eq_false_iff_not]
    exact ⟨fun h => absurd h.2 (by simp; omega), fun h => absurd h.2 (by simp; omega), others_up h4 (h5 b hb) hb⟩

/-- One operation of the run. -/
structure OpAt (tb : Tab) (call : CallT) (cx : Cx) (N : Nat) (all : List Oper) (o : Oper) (i a : Nat) (d d' : Ds) (m : Md) : Prop where
  want : wantA all d.t o = some (!m.skip)
  put : put N d.t o.dst m.v = some d'.t
  seen : Seen cx a d m
  run : (m.skip = true ∧ m.v = und ∧ d'.s = d.s ∧ d'.iv = d.iv ∧ d'.es = d.es ∧ m.fl = d.s.n ∧ m.hid = [(0, d.s.n)]) ∨
    (m.skip = false ∧ opv tb o.op call ⟨cx.g, cx.l, m.fl, m.hid⟩ d.t d.s = some (.ok m.v d'.s) ∧ free a m.see m.wr d.es = true ∧
      d'.iv = (if d.s.n < d'.s.n then (i, d.s.n, d'.s.n) :: d.iv else d.iv) ∧ d'.es = ⟨i, m.see, m.wr⟩ :: d.es)

theorem okR_some {β : Type} {r : R3} {k : AV → Hs → Option β} {x : β} (h : okR r k = some x) : ∃ v s, r = .ok v s ∧ k v s = some x := by
  cases r with
  | ok v s => exact ⟨v, s, rfl, h⟩
  | dfr f xs => cases h
theorem tryOp_some {o : Oper} {i a : Nat} {d d' : Ds} {fl : Nat} {hid : Hid} {see wr : See} (h : tryOp tb call cx N o i a d fl hid see wr = some d') :
    ∃ v, put N d.t o.dst v = some d'.t ∧ opv tb o.op call ⟨cx.g, cx.l, fl, hid⟩ d.t d.s = some (.ok v d'.s) ∧ free a see wr d.es = true ∧
      d'.iv = (if d.s.n < d'.s.n then (i, d.s.n, d'.s.n) :: d.iv else d.iv) ∧ d'.es = ⟨i, see, wr⟩ :: d.es := by
  obtain ⟨h1, h2⟩ := gd_some.1 h
  obtain ⟨r, h3, h4⟩ := ob_some.1 h2
  obtain ⟨v, s', rfl, h5⟩ := okR_some h4
  obtain ⟨t, h6, h7⟩ := ob_some.1 h5
  cases h7
  refine ⟨v, h6, h3, h1, ?_, rfl⟩
  dsimp only
  cases hc : Nat.ble (d.s.n + 1) s'.n with
  | true => have : d.s.n < s'.n := ble_iff.1 hc
            rw [if_pos this]
  | false => rw [if_neg (fun hh => by rw [ble_iff.2 hh] at hc; cases hc)]
theorem blkOf_some {β : Type} {t : TE} {a : Option Operand} {k : Nat → Option β} {r : β} (h : blkOf tb t a k = some r) : ∃ b, k b = some r := by
  obtain ⟨x, _, h2⟩ := ob_some.1 h
  obtain ⟨y, _, h4⟩ := ob_some.1 h2
  obtain ⟨b, o, _, h5⟩ := asPtr_some h4
  exact ⟨b, h5⟩

theorem drawOp_some {all : List Oper} {o : Oper} {i a : Nat} {d d' : Ds} (h : drawOp tb call cx N all o i a d = some d') : ∃ m, OpAt tb call cx N all o i a d d' m := by
  obtain ⟨w, h1, h2⟩ := ob_some.1 h
  cases w with
  | false =>
    obtain ⟨t, h3, h4⟩ := ob_some.1 h2
    cases h4
    exact ⟨⟨true, d.s.n, [(0, d.s.n)], .no, .no, und⟩, h1, h3, seen_zero rfl rfl, .inl ⟨rfl, rfl, rfl, rfl, rfl, rfl, rfl⟩⟩
  | true =>
    have h3 : (Bool.rec (motive := fun _ => Option Ds)
      (Bool.rec (motive := fun _ => Option Ds)
        (Bool.rec (motive := fun _ => Option Ds)
          (orE (tryOp tb call cx N o i a d d.s.n (others a d.iv cx.hid) .all .no) (tryOp tb call cx N o i a d cx.fl (others a d.iv cx.hid) .all .all))
          (blkOf tb d.t (cls o.op).2 (fun b => gd (Nat.ble (b + 1) d.s.n) (tryOp tb call cx N o i a d cx.fl ((0, b) :: (b + 1, d.s.n) :: others a d.iv cx.hid) (.one b) (.one b))))
          (Nat.beq (cls o.op).1 2))
        (blkOf tb d.t (cls o.op).2 (fun b => gd (Nat.ble (b + 1) d.s.n) (tryOp tb call cx N o i a d d.s.n ((0, b) :: (b + 1, d.s.n) :: others a d.iv cx.hid) (.one b) .no)))
        (Nat.beq (cls o.op).1 1))
      (tryOp tb call cx N o i a d d.s.n [(0, d.s.n)] .no .no)
      (Nat.beq (cls o.op).1 0)) = some d' := h2
    have fin : ∀ fl hid see wr, tryOp tb call cx N o i a d fl hid see wr = some d' → (∀ v, Seen cx a d ⟨false, fl, hid, see, wr, v⟩) → ∃ m, OpAt tb call cx N all o i a d d' m := by
      intro fl hid see wr h4 h5
      obtain ⟨v, k1, k2, k3, k4, k5⟩ := tryOp_some h4
      exact ⟨⟨false, fl, hid, see, wr, v⟩, h1, k1, h5 v, .inr ⟨rfl, k2, k3, k4, k5⟩⟩
    generalize hc0 : Nat.beq (cls o.op).1 0 = c0 at h3
    generalize hc1 : Nat.beq (cls o.op).1 1 = c1 at h3
    generalize hc2 : Nat.beq (cls o.op).1 2 = c2 at h3
    cases c0 with
    | true => exact fin _ _ _ _ h3 fun v => seen_zero rfl rfl
    | false =>
      cases c1 with
      | true =>
        obtain ⟨b, h4⟩ := blkOf_some h3
        obtain ⟨h5, h6⟩ := gd_some.1 h4
        exact fin _ _ _ _ h6 fun v => seen_one (.inl ⟨rfl, rfl⟩) rfl rfl (ble_iff.1 h5)
      | false =>
        cases c2 with
        | true =>
          obtain ⟨b, h4⟩ := blkOf_some h3
          obtain ⟨h5, h6⟩ := gd_some.1 h4
          exact fin _ _ _ _ h6 fun v => seen_one (.inr ⟨rfl, rfl⟩) rfl rfl (ble_iff.1 h5)
        | false =>
          rcases orE_some h3 with h4 | h4
          · exact fin _ _ _ _ h4 fun v => seen_all (.inl ⟨rfl, rfl⟩) rfl rfl
          · exact fin _ _ _ _ h4 fun v => seen_all (.inr ⟨rfl, rfl⟩) rfl rfl

theorem drawGo_run (all : List Oper) (l : List Oper) : ∀ (as : List Nat) (i : Nat) (d d' : Ds), drawGo tb call cx N all l as i d = some d' →
    ∃ (D : Nat → Ds) (M : Nat → Md), D i = d ∧ D (i + l.length) = d' ∧ l.length ≤ as.length ∧
      ∀ k o a, l[k]? = some o → as[k]? = some a → OpAt tb call cx N all o (i + k) a (D (i + k)) (D (i + k + 1)) (M (i + k)) := by
  induction l with
  | nil => intro as i d d' h; cases h; exact ⟨fun _ => d, fun _ => ⟨true, 0, [], .no, .no, und⟩, rfl, rfl, Nat.zero_le _, fun k o a h => by simp at h⟩
  | cons o l ih =>
    intro as i d d' h
    cases as with
    | nil => cases h
    | cons a as =>
      obtain ⟨d1, h1, h2⟩ := ob_some.1 h
      obtain ⟨m, h3⟩ := drawOp_some h1
      obtain ⟨D, M, k1, k2, k3, k4⟩ := ih as (i + 1) d1 d' h2
      refine ⟨fun k => if k = i then d else D k, fun k => if k = i then m else M k, by simp, ?_, by simpa using k3, ?_⟩
      · dsimp only
        rw [if_neg (by simp), ← k2, List.length_cons]; congr 1; omega
      · intro k o' a' ho ha
        dsimp only
        cases k with
        | zero =>
          simp at ho ha; subst ho; subst ha
          rw [if_pos (by omega), if_neg (by omega), if_pos (by omega)]
          simpa [k1] using h3
        | succ k =>
          rw [if_neg (by omega), if_neg (by omega), if_neg (by omega)]
          have := k4 k o' a' (by simpa using ho) (by simpa using ha)
          rwa [show i + 1 + k = i + (k + 1) by omega] at this
end
end Ev
end Go.Proofs.YtipjmaimjchckaaGreatDoor

/-! REGIONS THAT DRAW: forerunners; what each operation writes and sees. No world in sight. -/
set_option linter.unusedSimpArgs false
set_option linter.unusedVariables false
set_option linter.unusedSectionVars false
namespace Go.Proofs.YtipjmaimjchckaaGreatDoor
open Go.RowKit
namespace Ev

theorem bit_eq (n i : Nat) : bit n i = n.testBit i := by
  unfold bit
  rw [Nat.testBit_eq_decide_div_mod_eq]
  have e1 : Nat.land (Nat.shiftRight n i) 1 = n / 2 ^ i % 2 := by
    show (n >>> i) &&& 1 = _
    rw [Nat.and_one_is_mod, Nat.shiftRight_eq_div_pow]
  rw [e1]
  by_cases h : n / 2 ^ i % 2 = 1
  · rw [h]; rfl
  · rw [decide_eq_false h]
    cases hb : Nat.beq (n / 2 ^ i % 2) 1 with
    | false => rfl
    | true => exact absurd (beq_iff.1 hb) h
theorem bit_lor (a b i : Nat) : bit (Nat.lor a b) i = (bit a i || bit b i) := by
  rw [bit_eq, bit_eq, bit_eq]; exact Nat.testBit_or a b i
theorem bit_pow (a i : Nat) : bit (Nat.pow 2 a) i = decide (a = i) := by rw [bit_eq]; exact Nat.testBit_two_pow
theorem bit_zero (i : Nat) : bit 0 i = false := by rw [bit_eq]; exact Nat.zero_testBit i

theorem ancO_bit (acc : List Nat) (j : Nat) (after : List Edge) :
    bit (List.rec (motive := fun _ => Nat) 0 (fun e _ ih => Bool.rec (motive := fun _ => Nat) ih (Nat.lor ih (Nat.lor (Nat.pow 2 e.on) (Option.rec (motive := fun _ => Nat) 0 (fun n => n) (nth acc e.on)))) (binding e)) after) j = true ↔
      ∃ e ∈ after, binding e = true ∧ (j = e.on ∨ ∃ m, acc[e.on]? = some m ∧ bit m j = true) := by
  induction after with
  | nil => exact ⟨fun h => (by rw [show bit _ j = bit 0 j from rfl, bit_zero] at h; cases h), fun ⟨_, h, _⟩ => (by cases h)⟩
  | cons e l ih =>
    generalize hX : (List.rec (motive := fun _ => Nat) 0 (fun e _ ih => Bool.rec (motive := fun _ => Nat) ih (Nat.lor ih (Nat.lor (Nat.pow 2 e.on) (Option.rec (motive := fun _ => Nat) 0 (fun n => n) (nth acc e.on)))) (binding e)) l) = X at ih
    show bit (Bool.rec (motive := fun _ => Nat) (List.rec (motive := fun _ => Nat) 0 (fun e _ ih => Bool.rec (motive := fun _ => Nat) ih (Nat.lor ih (Nat.lor (Nat.pow 2 e.on) (Option.rec (motive := fun _ => Nat) 0 (fun n => n) (nth acc e.on)))) (binding e)) l) (Nat.lor (List.rec (motive := fun _ => Nat) 0 (fun e _ ih => Bool.rec (motive := fun _ => Nat) ih (Nat.lor ih (Nat.lor (Nat.pow 2 e.on) (Option.rec (motive := fun _ => Nat) 0 (fun n => n) (nth acc e.on)))) (binding e)) l) (Nat.lor (Nat.pow 2 e.on) (Option.rec (motive := fun _ => Nat) 0 (fun n => n) (nth acc e.on)))) (binding e)) j = true ↔ _
    rw [hX]
    cases hb : binding e with
    | false =>
      show bit X j = true ↔ _
      rw [ih]
      constructor
      · rintro ⟨x, h1, h2⟩; exact ⟨x, List.mem_cons_of_mem _ h1, h2⟩
      · rintro ⟨x, h1, h2, h3⟩
        rcases List.mem_cons.1 h1 with rfl | h1
        · rw [hb] at h2; cases h2
        · exact ⟨x, h1, h2, h3⟩
    | true =>
      show bit (Nat.lor X (Nat.lor (Nat.pow 2 e.on) (Option.rec (motive := fun _ => Nat) 0 (fun n => n) (nth acc e.on)))) j = true ↔ _
      rw [bit_lor, bit_lor, bit_pow, Bool.or_eq_true, Bool.or_eq_true, decide_eq_true_iff, ih, nth_eq]
      have hopt : bit (Option.rec (motive := fun _ => Nat) 0 (fun n => n) acc[e.on]?) j = true ↔ ∃ m, acc[e.on]? = some m ∧ bit m j = true := by
        cases acc[e.on]? with
        | none => exact ⟨fun h => (by rw [show bit _ j = bit 0 j from rfl, bit_zero] at h; cases h), fun ⟨_, h, _⟩ => (by cases h)⟩
        | some m => exact ⟨fun h => ⟨m, rfl, h⟩, fun ⟨_, h, h'⟩ => by cases h; exact h'⟩
      rw [hopt]
      constructor
      · rintro (⟨x, h1, h2⟩ | h1 | h1)
        · exact ⟨x, List.mem_cons_of_mem _ h1, h2⟩
        · exact ⟨e, List.mem_cons_self, hb, .inl h1.symm⟩
        · exact ⟨e, List.mem_cons_self, hb, .inr h1⟩
      · rintro ⟨x, h1, h2, h3⟩
        rcases List.mem_cons.1 h1 with rfl | h1
        · rcases h3 with h3 | h3
          · exact .inr (.inl h3.symm)
          · exact .inr (.inr h3)
        · exact .inl ⟨x, h1, h2, h3⟩

theorem ancL_spec : ∀ (l : List Oper) (acc : List Nat), ∃ r, ancL l acc = acc ++ r ∧ r.length = l.length ∧ ∀ k o, l[k]? = some o → r[k]? = some (ancO (acc ++ r.take k) o) := by
  intro l
  induction l with
  | nil => intro acc; exact ⟨[], (List.append_nil _).symm, rfl, fun k o h => by simp at h⟩
  | cons o l ih =>
    intro acc
    obtain ⟨r, h1, h2, h3⟩ := ih (app acc [ancO acc o])
    refine ⟨ancO acc o :: r, ?_, by simp [h2], fun k x hx => ?_⟩
    · show ancL l (app acc [ancO acc o]) = _
      rw [h1, app_eq, List.append_assoc]; rfl
    · cases k with
      | zero => simp at hx; subst hx; simp
      | succ k =>
        have := h3 k x (by simpa using hx)
        rw [app_eq, List.append_assoc] at this
        simpa using this

/-- Is j a forerunner of i? -/
def An (as : List Nat) (i j : Nat) : Prop := ∃ a, as[i]? = some a ∧ bit a j = true

theorem backOk_spec : ∀ (l : List Oper) (i : Nat), backOk l i = true → ∀ k o, l[k]? = some o → ∀ e ∈ o.after.toList, binding e = true → e.on < i + k := by
  intro l
  induction l with
  | nil => intro i _ k o h; simp at h
  | cons x l ih =>
    intro i h k o ho e he hb
    change band (allB (fun e => bor (bnot (binding e)) (Nat.ble (e.on + 1) i)) x.after.toList) (backOk l (i + 1)) = true at h
    rw [band_eq, Bool.and_eq_true, allB_eq] at h
    cases k with
    | zero =>
      simp at ho; subst ho
      have := List.all_eq_true.1 h.1 e he
      rw [bor_eq, bnot_eq, hb] at this
      have := ble_iff.1 (by simpa using this)
      omega
    | succ k => have := ih (i + 1) h.2 k o (by simpa using ho) e he hb; omega

theorem an_iff {ops : Array Oper} (hb : backOk ops.toList 0 = true) {i j : Nat} {o : Oper} (ho : ops[i]? = some o) :
    An (ancL ops.toList []) i j ↔ ∃ e ∈ o.after.toList, binding e = true ∧ (j = e.on ∨ An (ancL ops.toList []) e.on j) := by
  obtain ⟨r, h1, h2, h3⟩ := ancL_spec ops.toList []
  rw [List.nil_append] at h1
  rw [h1]
  have ho' : ops.toList[i]? = some o := by rw [Array.getElem?_toList]; exact ho
  have h4 := h3 i o ho'
  have hback := backOk_spec _ _ hb i o ho'
  rw [List.nil_append] at h4
  unfold An
  constructor
  · rintro ⟨a, h5, h6⟩
    rw [h4] at h5; cases h5
    obtain ⟨e, k1, k2, k3⟩ := (ancO_bit (r.take i) j o.after.toList).1 h6
    refine ⟨e, k1, k2, k3.imp id ?_⟩
    rintro ⟨m, k4, k5⟩
    rw [List.getElem?_take] at k4
    split at k4
    · exact ⟨m, k4, k5⟩
    · cases k4
  · rintro ⟨e, k1, k2, k3⟩
    refine ⟨_, h4, (ancO_bit (r.take i) j o.after.toList).2 ⟨e, k1, k2, k3.imp id ?_⟩⟩
    rintro ⟨m, k4, k5⟩
    have := hback e k1 k2
    refine ⟨m, ?_, k5⟩
    rw [List.getElem?_take, if_pos (by omega)]; exact k4

theorem as_len (ops : Array Oper) : (ancL ops.toList []).length = ops.size := by
  obtain ⟨r, h1, h2, _⟩ := ancL_spec ops.toList []
  rw [List.nil_append] at h1
  rw [h1, h2, Array.length_toList]

theorem an_get {ops : Array Oper} {i j : Nat} (h : An (ancL ops.toList []) i j) : ∃ o, ops[i]? = some o := by
  obtain ⟨a, h1, _⟩ := h
  have : i < ops.size := by
    rw [← as_len]
    rcases Nat.lt_or_ge i (ancL ops.toList []).length with h | h
    · exact h
    · rw [List.getElem?_eq_none h] at h1; cases h1
  exact ⟨_, Array.getElem?_eq_getElem this⟩

theorem an_lt {ops : Array Oper} (hb : backOk ops.toList 0 = true) : ∀ (i j : Nat), An (ancL ops.toList []) i j → j < i := by
  intro i
  induction i using Nat.strongRecOn with
  | ind i ih =>
    intro j h
    obtain ⟨o, ho⟩ := an_get h
    obtain ⟨e, k1, k2, k3⟩ := (an_iff hb ho).1 h
    have := backOk_spec _ _ hb i o (by rw [Array.getElem?_toList]; exact ho) e k1 k2
    rcases k3 with rfl | k3
    · omega
    · have := ih e.on (by omega) j k3; omega
theorem an_trans {ops : Array Oper} (hb : backOk ops.toList 0 = true) : ∀ (i j k : Nat), An (ancL ops.toList []) i j → An (ancL ops.toList []) j k → An (ancL ops.toList []) i k := by
  intro i
  induction i using Nat.strongRecOn with
  | ind i ih =>
    intro j k h h'
    obtain ⟨o, ho⟩ := an_get h
    obtain ⟨e, k1, k2, k3⟩ := (an_iff hb ho).1 h
    have := backOk_spec _ _ hb i o (by rw [Array.getElem?_toList]; exact ho) e k1 k2
    rcases k3 with rfl | k3
    · exact (an_iff hb ho).2 ⟨e, k1, k2, .inr h'⟩
    · exact (an_iff hb ho).2 ⟨e, k1, k2, .inr (ih e.on (by omega) j k k3 h')⟩

theorem tOk1_spec {ops : Array Oper} {i : Nat} {o : Oper} : ∀ (l : List Oper) (as : List Nat), tOk1 ops i o l as = true → ∀ (y : Nat) (p : Oper) (a : Nat), l[y]? = some p → as[y]? = some a → o.apart ops p = true ∨ bit a i = true := by
  intro l
  induction l with
  | nil => intro as _ y p a h; simp at h
  | cons p l ih =>
    intro as h y q a hq ha
    cases as with
    | nil => cases h
    | cons b as =>
      change band (bor (o.apart ops p) (bit b i)) (tOk1 ops i o l as) = true at h
      rw [band_eq, Bool.and_eq_true, bor_eq, Bool.or_eq_true] at h
      cases y with
      | zero => simp at hq ha; subst hq; subst ha; exact h.1
      | succ y => exact ih as h.2 y q a (by simpa using hq) (by simpa using ha)
theorem tOk_spec {ops : Array Oper} : ∀ (l : List Oper) (i : Nat) (as : List Nat), tOk ops l i as = true → ∀ (x y : Nat) (o p : Oper) (a : Nat), x < y → l[x]? = some o → l[y]? = some p → as[y]? = some a → o.apart ops p = true ∨ bit a (i + x) = true := by
  intro l
  induction l with
  | nil => intro i as _ x y o p a _ h; simp at h
  | cons q l ih =>
    intro i as h x y o p a hxy ho hp ha
    cases as with
    | nil => cases h
    | cons b as =>
      change band (tOk1 ops i q l as) (tOk ops l (i + 1) as) = true at h
      rw [band_eq, Bool.and_eq_true] at h
      cases y with
      | zero => omega
      | succ y =>
        cases x with
        | zero => simp at ho; subst ho; exact tOk1_spec l as h.1 y p a (by simpa using hp) (by simpa using ha)
        | succ x =>
          have := ih (i + 1) as h.2 x y o p a (by omega) (by simpa using ho) (by simpa using hp) (by simpa using ha)
          rwa [show i + 1 + x = i + (x + 1) by omega] at this
end Ev
end Go.Proofs.YtipjmaimjchckaaGreatDoor

/-! REGIONS THAT DRAW: what each operation of the run writes and sees. No world in sight. -/
set_option linter.unusedSimpArgs false
set_option linter.unusedVariables false
set_option linter.unusedSectionVars false
namespace Go.Proofs.YtipjmaimjchckaaGreatDoor
open Go.RowKit
namespace Ev

/-- A run in the order of the text. -/
structure Run (tb : Tab) (call : CallT) (cx : Cx) (N : Nat) (ops : Array Oper) (D : Nat → Ds) (M : Nat → Md) : Prop where
  at_ : ∀ k o a, ops[k]? = some o → (ancL ops.toList [])[k]? = some a → OpAt tb call cx N ops.toList o k a (D k) (D (k + 1)) (M k)
  iv0 : (D 0).iv = []
  es0 : (D 0).es = []
  fln : cx.fl ≤ (D 0).s.n
  hidn : ∀ b, (D 0).s.n ≤ b → hidden cx.hid b = false
  back : backOk ops.toList 0 = true
  tok : tOk ops ops.toList 0 (ancL ops.toList []) = true
  fr : CallFr call

/-- An operation may write a block. -/
def Wr (D : Nat → Ds) (M : Nat → Md) (k b : Nat) : Prop := ((D k).s.n ≤ b ∧ b < (D (k + 1)).s.n) ∨ (b < (D k).s.n ∧ (M k).fl ≤ b ∧ hidden (M k).hid b = false)
/-- An operation may look at a block. -/
def Vi (D : Nat → Ds) (M : Nat → Md) (k b : Nat) : Prop := b < (D k).s.n ∧ hidden (M k).hid b = false

section
variable {tb : Tab} {call : CallT} {cx : Cx} {N : Nat} {ops : Array Oper} {D : Nat → Ds} {M : Nat → Md} (hR : Run tb call cx N ops D M)
include hR

theorem Run.at' {k : Nat} (hk : k < ops.size) : ∃ o a, ops[k]? = some o ∧ (ancL ops.toList [])[k]? = some a ∧ OpAt tb call cx N ops.toList o k a (D k) (D (k + 1)) (M k) := by
  have h1 : ops[k]? = some ops[k] := Array.getElem?_eq_getElem hk
  have h2 : k < (ancL ops.toList []).length := by rw [as_len]; exact hk
  exact ⟨_, _, h1, List.getElem?_eq_getElem h2, hR.at_ k _ _ h1 (List.getElem?_eq_getElem h2)⟩

theorem Run.fq {k : Nat} (hk : k < ops.size) : Fq (M k).fl (M k).hid (D k).s (D (k + 1)).s := by
  obtain ⟨o, a, h1, h2, h3⟩ := hR.at' hk
  rcases h3.run with ⟨_, _, h4, _⟩ | ⟨_, h4, _⟩
  · rw [h4]; exact Fq.refl _ _ _
  · exact op_fr (cx := ⟨cx.g, cx.l, (M k).fl, (M k).hid⟩) hR.fr o.op _ _ h4
theorem Run.mono1 {k : Nat} (hk : k < ops.size) : (D k).s.n ≤ (D (k + 1)).s.n := (hR.fq hk).1
theorem Run.mono {k k' : Nat} (hk : k ≤ k') (hk' : k' ≤ ops.size) : (D k).s.n ≤ (D k').s.n := by
  obtain ⟨j, rfl⟩ := Nat.exists_eq_add_of_le hk
  clear hk
  induction j with
  | zero => exact Nat.le_refl _
  | succ j ih => exact Nat.le_trans (ih (by omega)) (hR.mono1 (k := k + j) (by omega))

theorem Run.iv {k : Nat} (hk : k ≤ ops.size) : (∀ p ∈ (D k).iv, ∃ j, j < k ∧ p = (j, (D j).s.n, (D (j + 1)).s.n)) ∧ ∀ j, j < k → (D j).s.n < (D (j + 1)).s.n → (j, (D j).s.n, (D (j + 1)).s.n) ∈ (D k).iv := by
  induction k with
  | zero => rw [hR.iv0]; exact ⟨fun p h => (by cases h), fun j h => (by omega)⟩
  | succ k ih =>
    obtain ⟨i1, i2⟩ := ih (by omega)
    obtain ⟨o, a, h1, h2, h3⟩ := hR.at' (k := k) (by omega)
    rcases h3.run with ⟨_, _, h4, h5, _⟩ | ⟨_, _, _, h5, _⟩
    · rw [h5]
      refine ⟨fun p hp => ?_, fun j hj hlt => ?_⟩
      · obtain ⟨j, h6, h7⟩ := i1 p hp; exact ⟨j, by omega, h7⟩
      · by_cases e : j = k
        · subst e; rw [h4] at hlt; omega
        · exact i2 j (by omega) hlt
    · rw [h5]
      by_cases hlt : (D k).s.n < (D (k + 1)).s.n
      · rw [if_pos hlt]
        refine ⟨fun p hp => ?_, fun j hj hlt => ?_⟩
        · rcases List.mem_cons.1 hp with rfl | hp
          · exact ⟨k, by omega, rfl⟩
          · obtain ⟨j, h6, h7⟩ := i1 p hp; exact ⟨j, by omega, h7⟩
        · by_cases e : j = k
          · subst e; exact List.mem_cons_self
          · exact List.mem_cons_of_mem _ (i2 j (by omega) hlt)
      · rw [if_neg hlt]
        refine ⟨fun p hp => ?_, fun j hj hlt' => ?_⟩
        · obtain ⟨j, h6, h7⟩ := i1 p hp; exact ⟨j, by omega, h7⟩
        · by_cases e : j = k
          · subst e; exact absurd hlt' hlt
          · exact i2 j (by omega) hlt'
theorem Run.es {k : Nat} (hk : k ≤ ops.size) : ∀ j, j < k → (M j).skip = false → (⟨j, (M j).see, (M j).wr⟩ : En) ∈ (D k).es := by
  induction k with
  | zero => intro j h; omega
  | succ k ih =>
    intro j hj hs
    obtain ⟨o, a, h1, h2, h3⟩ := hR.at' (k := k) (by omega)
    rcases h3.run with ⟨h4, _, _, _, h5, _⟩ | ⟨_, _, _, _, h5⟩
    · rw [h5]
      by_cases e : j = k
      · subst e; rw [h4] at hs; cases hs
      · exact ih (by omega) j (by omega) hs
    · rw [h5]
      by_cases e : j = k
      · subst e; exact List.mem_cons_self
      · exact List.mem_cons_of_mem _ (ih (by omega) j (by omega) hs)

theorem Run.flk {k : Nat} (hk : k < ops.size) : cx.fl ≤ (M k).fl ∧ (M k).fl ≤ (D k).s.n := by
  obtain ⟨o, a, h1, h2, h3⟩ := hR.at' hk
  exact h3.seen.fl (Nat.le_trans hR.fln (hR.mono (Nat.zero_le _) (by omega)))
theorem Run.skipV {k b : Nat} (hk : k < ops.size) (hv : Vi D M k b) : (M k).skip = false := by
  obtain ⟨o, a, h1, h2, h3⟩ := hR.at' hk
  rcases h3.run with ⟨_, _, _, _, _, _, h4⟩ | ⟨h4, _⟩
  · have h5 := hv.2
    rw [h4] at h5
    exact absurd ⟨Nat.zero_le _, hv.1⟩ (hidden_false_cons h5).1
  · exact h4
theorem Run.upk {k : Nat} (hk : k < ops.size) {b : Nat} (hb : (D k).s.n ≤ b) : hidden (M k).hid b = false := by
  obtain ⟨o, a, h1, h2, h3⟩ := hR.at' hk
  refine h3.seen.up (fun p hp => ?_) (fun c hc => hR.hidn c (Nat.le_trans (hR.mono (Nat.zero_le _) (by omega)) hc)) b hb
  obtain ⟨j, h4, rfl⟩ := (hR.iv (Nat.le_of_lt hk)).1 p hp
  exact hR.mono (k := j + 1) (by omega) (by omega)

theorem free_spec {a : Nat} {see wr : See} {l : List En} (h : free a see wr l = true) {e : En} (he : e ∈ l) (hm : meets e.wr see = true ∨ meets wr e.see = true) : bit a e.i = true := by
  unfold free at h
  rw [allB_eq] at h
  have := List.all_eq_true.1 h e he
  rw [bor_eq, bnot_eq, bor_eq] at this
  rcases hm with hm | hm <;> simpa [hm] using this

/-- What was written is seen by successors alone. -/
theorem Run.f1 {i j b : Nat} (hij : i < j) (hj : j < ops.size) (hw : Wr D M i b) (hv : Vi D M j b) : An (ancL ops.toList []) j i := by
  obtain ⟨o, a, h1, h2, h3⟩ := hR.at' hj
  obtain ⟨_, s2, s3⟩ := h3.seen.hid b hv.1 hv.2
  refine ⟨a, h2, ?_⟩
  rcases hw with ⟨w1, w2⟩ | ⟨w1, w2, w3⟩
  · exact s2 _ ((hR.iv (Nat.le_of_lt hj)).2 i hij (Nat.lt_of_le_of_lt w1 w2)) w1 w2
  · have ns := hR.skipV hj hv
    have ni := hR.skipV (k := i) (by omega) ⟨w1, w3⟩
    rcases h3.run with ⟨h4, _⟩ | ⟨_, _, h4, _⟩
    · rw [ns] at h4; cases h4
    · obtain ⟨o', a', q1, q2, q3⟩ := hR.at' (k := i) (by omega)
      exact free_spec hR h4 (hR.es (Nat.le_of_lt hj) i hij ni) (.inl (meets_of (q3.seen.wr b w1 w2 w3) s3))
/-- What was seen is written by successors alone. -/
theorem Run.f2 {i j b : Nat} (hij : i < j) (hj : j < ops.size) (hv : Vi D M i b) (hw : Wr D M j b) : An (ancL ops.toList []) j i := by
  obtain ⟨o, a, h1, h2, h3⟩ := hR.at' hj
  have hm := hR.mono (k := i) (k' := j) (by omega) (by omega)
  have hb := hv.1
  refine ⟨a, h2, ?_⟩
  rcases hw with ⟨w1, w2⟩ | ⟨w1, w2, w3⟩
  · omega
  · have ns := hR.skipV hj ⟨w1, w3⟩
    have ni := hR.skipV (k := i) (by omega) hv
    rcases h3.run with ⟨h4, _⟩ | ⟨_, _, h4, _⟩
    · rw [ns] at h4; cases h4
    · obtain ⟨o', a', q1, q2, q3⟩ := hR.at' (k := i) (by omega)
      exact free_spec hR h4 (hR.es (Nat.le_of_lt hj) i hij ni) (.inr (meets_of (h3.seen.wr b w1 w2 w3) (q3.seen.hid b hv.1 hv.2).2.2))
theorem Run.f3 {i j b : Nat} (hij : i < j) (hj : j < ops.size) (hw : Wr D M i b) (hw' : Wr D M j b) : An (ancL ops.toList []) j i := by
  rcases hw' with ⟨w1, w2⟩ | ⟨w1, w2, w3⟩
  · have := hR.mono (k := i + 1) (k' := j) (by omega) (by omega)
    have := hR.mono (k := i) (k' := j) (by omega) (by omega)
    rcases hw with ⟨v1, v2⟩ | ⟨v1, v2⟩ <;> omega
  · exact hR.f1 hij hj hw ⟨w1, w3⟩

theorem Run.vis {k b : Nat} (hk : k < ops.size) (hv : Vi D M k b) : hidden cx.hid b = false := by
  obtain ⟨o, a, h1, h2, h3⟩ := hR.at' hk
  exact (h3.seen.hid b hv.1 hv.2).1
theorem Run.wis {k b : Nat} (hk : k < ops.size) (hw : Wr D M k b) : hidden cx.hid b = false ∧ cx.fl ≤ b ∧ hidden (M k).hid b = false ∧ (M k).fl ≤ b ∧ b < (D (k + 1)).s.n := by
  have h1 := hR.flk hk
  have h2 := hR.mono (k := 0) (k' := k) (Nat.zero_le _) (by omega)
  have h3 := hR.mono1 hk
  rcases hw with ⟨w1, w2⟩ | ⟨w1, w2, w3⟩
  · exact ⟨hR.hidn b (by omega), by omega, hR.upk hk w1, by omega, w2⟩
  · exact ⟨hR.vis hk ⟨w1, w3⟩, by omega, w3, w2, by omega⟩

theorem Run.keep {k k' b : Nat} (hk : k ≤ k') (hk' : k' ≤ ops.size) (hb : b < (D k).s.n) (hn : ∀ j, k ≤ j → j < k' → ¬ Wr D M j b) : (D k').s.h.get b = (D k).s.h.get b := by
  obtain ⟨d, rfl⟩ := Nat.exists_eq_add_of_le hk
  clear hk
  induction d with
  | zero => rfl
  | succ d ih =>
    rw [← ih (by omega) (fun j h1 h2 => hn j h1 (by omega))]
    have hlt := hR.mono (k := k) (k' := k + d) (by omega) (by omega)
    refine (hR.fq (k := k + d) (by omega)).2.1 b (by omega) ?_
    have := hn (k + d) (by omega) (by omega)
    rcases Nat.lt_or_ge b (M (k + d)).fl with h | h
    · exact .inl h
    · cases hc : hidden (M (k + d)).hid b with
      | true => exact .inr rfl
      | false => exact absurd (.inr ⟨by omega, h, hc⟩) this
theorem Run.above {k b : Nat} {o : HO} (hk : k ≤ ops.size) (hb : (D k).s.n ≤ b) (ho : (D k).s.h.get b = some o) : ∃ o', (D 0).s.h.get b = some o' := by
  induction k generalizing o with
  | zero => exact ⟨o, ho⟩
  | succ k ih =>
    obtain ⟨o1, h1⟩ := (hR.fq (k := k) (by omega)).2.2 b o hb ho
    exact ih (by omega) (Nat.le_trans (hR.mono1 (k := k) (by omega)) hb) h1

theorem Run.tkeep1 {k t : Nat} (hk : k < ops.size) (hn : ∀ o, ops[k]? = some o → o.dst ≠ some t) : getA (D (k + 1)).t t = getA (D k).t t := by
  obtain ⟨o, a, h1, h2, h3⟩ := hR.at' hk
  rcases put_some h3.put with ⟨_, h4⟩ | ⟨j, h4, _, h5⟩
  · rw [h4]
  · rw [h5]; exact getA_set_ne _ _ (fun e => hn o h1 (by rw [h4, e]))
theorem Run.tkeep {k k' t : Nat} (hk : k ≤ k') (hk' : k' ≤ ops.size) (hn : ∀ j, k ≤ j → j < k' → ∀ o, ops[j]? = some o → o.dst ≠ some t) : getA (D k').t t = getA (D k).t t := by
  obtain ⟨d, rfl⟩ := Nat.exists_eq_add_of_le hk
  clear hk
  induction d with
  | zero => rfl
  | succ d ih =>
    rw [← ih (by omega) (fun j h1 h2 => hn j h1 (by omega))]
    exact hR.tkeep1 (k := k + d) (by omega) (hn (k + d) (by omega) (by omega))
theorem Run.tset {k t : Nat} {o : Oper} (hk : k < ops.size) (ho : ops[k]? = some o) (hd : o.dst = some t) : getA (D (k + 1)).t t = some (M k).v ∧ t < N := by
  obtain ⟨o', a, h1, h2, h3⟩ := hR.at' hk
  rw [ho] at h1; cases h1
  rcases put_some h3.put with ⟨h4, _⟩ | ⟨j, h4, h5, h6⟩
  · rw [hd] at h4; cases h4
  · rw [hd] at h4; cases h4
    rw [h6]; exact ⟨getA_set _ _ _, h5⟩

/-- Operations that share a slot follow one another. -/
theorem Run.t1 {i j : Nat} {o p : Oper} (hij : i < j) (ho : ops[i]? = some o) (hp : ops[j]? = some p) (hap : o.apart ops p = false) : An (ancL ops.toList []) j i := by
  have hj : j < ops.size := by
    rcases Nat.lt_or_ge j ops.size with h | h
    · exact h
    · rw [Array.getElem?_eq_none h] at hp; cases hp
  obtain ⟨p', a, h1, h2, _⟩ := hR.at' hj
  rcases tOk_spec _ _ _ hR.tok i j o p a hij (by rw [Array.getElem?_toList]; exact ho) (by rw [Array.getElem?_toList]; exact hp) h2 with h3 | h3
  · rw [h3] at hap; cases hap
  · rw [Nat.zero_add] at h3; exact ⟨a, h2, h3⟩
end
end Ev
end Go.Proofs.YtipjmaimjchckaaGreatDoor

/-! REGIONS THAT DRAW: the invariant, and one step of it. -/
set_option linter.unusedSimpArgs false
set_option linter.unusedVariables false
set_option linter.unusedSectionVars false
namespace Go.Proofs.YtipjmaimjchckaaGreatDoor
open Go.RowKit
namespace Ev

/-! ## From one scope to another -/
def AgreeAt (ρ ρ' : Env) (b : Nat) : Prop := ρ'.blk b = ρ.blk b ∧ ρ'.off b = ρ.off b ∧ ρ'.cp b = ρ.cp b
mutual
theorem sc_imp {G G' : Gh} {n n' : Nat} (h : ∀ b, @Gd G n b → @Gd G' n' b) : (x : AV) → @Sc G n x → @Sc G' n' x
  | .v _, _ => trivial
  | .ptr b off, hs => h b hs
  | .sl b _ _ _, hs => h b hs
  | .slU b _ _ _, hs => h b hs
  | .fn _ first caps, hs => ⟨scL_imp h first hs.1, scL_imp h caps hs.2⟩
  | .ifc _ x, hs => sc_imp h x hs
  | .agg l, hs => scL_imp h l hs
  | .tup l, hs => scL_imp h l hs
  | .mp b, hs => h b hs
theorem scL_imp {G G' : Gh} {n n' : Nat} (h : ∀ b, @Gd G n b → @Gd G' n' b) : (l : List AV) → @ScL G n l → @ScL G' n' l
  | [], _ => trivial
  | x :: l, hs => ⟨sc_imp h x hs.1, scL_imp h l hs.2⟩
end
mutual
theorem den_on {G : Gh} {n : Nat} {ρ ρ' : Env} (h : ∀ b, @Gd G n b → AgreeAt ρ ρ' b) : (x : AV) → @Sc G n x → den ρ' x = den ρ x
  | .v _, _ => rfl
  | .ptr b off, hs => by simp only [den, (h b hs).1, (h b hs).2.1]
  | .sl b _ _ _, hs => by simp only [den, (h b hs).1, (h b hs).2.1]
  | .slU b _ _ _, hs => by simp only [den, Env.cap, (h b hs).1, (h b hs).2.1, (h b hs).2.2]
  | .fn _ first caps, hs => by simp only [den, denL_on h first hs.1, denL_on h caps hs.2]
  | .ifc _ x, hs => by simp only [den, den_on h x hs]
  | .agg l, hs => by simp only [den, denL_on h l hs]
  | .tup l, hs => by simp only [den, denL_on h l hs]
  | .mp b, hs => by simp only [den, (h b hs).2.2]
theorem denL_on {G : Gh} {n : Nat} {ρ ρ' : Env} (h : ∀ b, @Gd G n b → AgreeAt ρ ρ' b) : (l : List AV) → @ScL G n l → denL ρ' l = denL ρ l
  | [], _ => rfl
  | x :: l, hs => by simp only [denL, den_on h x hs.1, denL_on h l hs.2]
end
theorem holds_on {G G' : Gh} {n n' b : Nat} {ρ ρ' : Env} {w w' : World} {o : HO} (h : @HO.Holds G ρ n b w o) (hi : ∀ b, @Gd G n b → @Gd G' n' b) (he : ∀ b, @Gd G n b → AgreeAt ρ ρ' b)
    (hb : AgreeAt ρ ρ' b) (hw : w'.heap[ρ.blk b]? = w.heap[ρ.blk b]?) : @HO.Holds G' ρ' n' b w' o := by
  have hden : ∀ l : List AV, @ScL G n l → l.map (den ρ') = l.map (den ρ) := fun l hl => by rw [← denL_eq, ← denL_eq]; exact denL_on he l hl
  cases o with
  | ro cells =>
    obtain ⟨⟨x, h1⟩, h2, h3⟩ := h
    refine ⟨⟨x, by rw [hb.1, hw]; exact h1⟩, fun i x hx => ?_, scL_imp hi _ h3⟩
    have hd : den ρ' x = den ρ x := den_on he x ((@scL_iff G _ _).1 h3 x (List.mem_of_getElem? hx))
    rw [hd, ← h2 i x hx, hb.1, hb.2.1]
    simp only [World.cell?, hw]
  | row cells =>
    obtain ⟨h0, c, el, fr, h1, h2, h3, h4⟩ := h
    exact ⟨by rw [hb.2.1]; exact h0, c, el, fr, by rw [hb.1, hw]; exact h1, h2, by rw [hden _ h4]; exact h3, scL_imp hi _ h4⟩
  | rowU cells es =>
    obtain ⟨h0, h00, c, el, fr, h1, h2, h3, ⟨rest, h4⟩, h5⟩ := h
    exact ⟨by rw [hb.2.1]; exact h0, h00, c, el, fr, by rw [hb.1, hw]; exact h1, h2, by unfold Env.cap; rw [hb.2.2]; exact h3, ⟨rest, by rw [hden _ h5]; exact h4⟩, scL_imp hi _ h5⟩
  | iter s pos => exact ⟨by rw [hb.2.1]; exact h.1, by rw [hb.1, hw]; exact h.2⟩

/-! ## The invariant -/
section
variable (G0 : Gh) (w0 ws : World) (cx : Cx) (N : Nat) (ops : Array Oper) (D : Nat → Ds) (M : Nat → Md) (ρ0 : Env) (ds : List Deferred)
/-- A block was made by an operation. -/
def Iv (j b : Nat) : Prop := (D j).s.n ≤ b ∧ b < (D (j + 1)).s.n
/-- What an operation's results may name of the blocks that the region makes. -/
def Sj (j b : Nat) : Prop := ∃ j', (j' = j ∨ An (ancL ops.toList []) j j') ∧ Iv D j' b
def Old (b : Nat) : Prop := b < (D 0).s.n ∧ ¬ G0.bad b
def wrT (j t : Nat) : Prop := ∃ o, ops[j]? = some o ∧ o.dst = some t
@[instance_reducible] def GT (t k : Nat) : Gh := ⟨fun b => ¬ (Old G0 D b ∨ ∃ j, j < k ∧ wrT ops j t ∧ Sj ops D j b)⟩
@[instance_reducible] def GM (c k : Nat) : Gh := ⟨fun b => ¬ (Old G0 D b ∨ ∃ j, j < k ∧ Wr D M j c ∧ Sj ops D j b)⟩
/-- The scope in which an operation is run. -/
@[instance_reducible] def GI (i : Nat) : Gh := ⟨fun b => G0.bad b ∨ ((D 0).s.n ≤ b ∧ b < (D i).s.n ∧ ¬ ∃ j, An (ancL ops.toList []) i j ∧ Iv D j b)⟩
variable (Dn : Nat → Prop)
def CT (t k : Nat) : Prop := (∀ j, j < k → wrT ops j t → Dn j) ∧ ∀ j, k ≤ j → wrT ops j t → ¬ Dn j
def CM (b k : Nat) : Prop := (∀ j, j < k → Wr D M j b → Dn j) ∧ ∀ j, k ≤ j → j < ops.size → Wr D M j b → ¬ Dn j
/-- A block is known, as the run has it ahead of operation k. -/
def Live (b k : Nat) (o : HO) : Prop := k ≤ ops.size ∧ CM ops D M Dn b k ∧ hidden cx.hid b = false ∧ (D k).s.h.get b = some o
structure Inv (ρ : Env) (w : World) (a : Act) : Prop where
  size : a.tmps.size = N
  defers : a.defers = ds
  ext : Ext (D 0).s.n ρ0 ρ
  below : Below w0.heap.size w0 w
  tmp : ∀ t k v, k ≤ ops.size → CT ops Dn t k → getA (D k).t t = some v → t < N ∧ a.tmps[t]? = some (den ρ v) ∧ @Sc (GT G0 ops D t k) (D ops.size).s.n v
  obj : ∀ b k o, Live cx ops D M Dn b k o → b < (D k).s.n ∧ @HO.Holds (GM G0 ops D M b k) ρ (D ops.size).s.n b w o ∧ (cx.l ≤ b → w0.heap.size ≤ ρ.blk b) ∧ (b < cx.l → ρ.blk b < w0.heap.size)
  inj : ∀ b b' k k' o o', Live cx ops D M Dn b k o → Live cx ops D M Dn b' k' o' → cx.l ≤ b → cx.l ≤ b' → ρ.blk b = ρ.blk b' → b = b'
  fr : Fr ρ0 cx (D 0).s ws w
  new : ∀ b k o, Live cx ops D M Dn b k o → cx.fl ≤ b → ws.heap.size ≤ ρ.blk b ∨ ∃ b0 o0, cx.fl ≤ b0 ∧ (D 0).s.look cx.hid b0 = some o0 ∧ ρ0.blk b0 = ρ.blk b
end

theorem wantA_some' {all : List Oper} {ops : Array Oper} {o : Oper} {b : Bool} {ρ : Env} {a : Act} {t : TE} (hall : all = ops.toList) (h : wantA all t o = some b)
    (ht : ∀ d v, d ∈ o.looksAt ops → getA t d = some v → a.tmps[d]? = some (den ρ v)) : Region.wanted o (yielded ops a.tmps) = b := by
  subst hall
  unfold wantA at h
  unfold Region.wanted
  cases hg : o.guard with
  | none => rw [hg] at h; cases h; rfl
  | some p =>
    rw [hg] at h
    obtain ⟨j, want⟩ := p
    obtain ⟨g, h1, h2⟩ := ob_some.1 h
    obtain ⟨d, h3, h4⟩ := ob_some.1 h2
    obtain ⟨x, h5, h6⟩ := ob_some.1 h4
    obtain ⟨u, rfl, h7⟩ := asV_some h6
    rw [nth_eq, Array.getElem?_toList] at h1
    have h8 := ht d _ (by simp [Oper.looksAt, hg, h1, h3]) h5
    have := gVal_some h7
    simp only [yielded, h1, h3, Option.bind_some, h8, den]
    cases u <;> exact this
end Ev
end Go.Proofs.YtipjmaimjchckaaGreatDoor

/-! REGIONS THAT DRAW: an operation finds the heap and the slots as the run has them. -/
set_option linter.unusedSimpArgs false
set_option linter.unusedVariables false
set_option linter.unusedSectionVars false
namespace Go.Proofs.YtipjmaimjchckaaGreatDoor
open Go.RowKit
namespace Ev
section
variable {G0 : Gh} {w0 ws : World} {tb : Tab} {call : CallT} {cx : Cx} {N : Nat} {ops : Array Oper} {D : Nat → Ds} {M : Nat → Md} {ρ0 ρ : Env} {ds : List Deferred} {Dn : Nat → Prop} {w : World} {a : Act} {i : Nat} {o : Oper}
/-- What is known when an operation is to be run. -/
structure Now (tb : Tab) (call : CallT) (G0 : Gh) (w0 ws : World) (cx : Cx) (N : Nat) (ops : Array Oper) (D : Nat → Ds) (M : Nat → Md) (ρ0 : Env) (ds : List Deferred) (Dn : Nat → Prop) (ρ : Env) (w : World) (a : Act) (i : Nat) (o : Oper) : Prop where
  run : Run tb call cx N ops D M
  ini : @SatH G0 w0 ρ0 cx (D 0).s ws
  inv : Inv G0 w0 ws cx N ops D M ρ0 ds Dn ρ w a
  get : ops[i]? = some o
  nd : ¬ Dn i
  anc : ∀ j, An (ancL ops.toList []) i j → Dn j
  cl : ∀ j k, Dn j → An (ancL ops.toList []) j k → Dn k

variable (h : Now tb call G0 w0 ws cx N ops D M ρ0 ds Dn ρ w a i o)
include h
theorem Now.lt : i < ops.size := by
  rcases Nat.lt_or_ge i ops.size with h1 | h1
  · exact h1
  · have := h.get; rw [Array.getElem?_eq_none h1] at this; cases this
theorem Now.ct {t : Nat} (h1 : ∀ (j : Nat) (p : Oper), j < i → ops[j]? = some p → p.dst = some t → p.apart ops o = false) (h2 : ∀ (j : Nat) (p : Oper), i < j → ops[j]? = some p → p.dst = some t → o.apart ops p = false) : CT ops Dn t i := by
  refine ⟨fun j hj ⟨p, hp, hd⟩ => ?_, fun j hj ⟨p, hp, hd⟩ hn => ?_⟩
  · exact h.anc j (h.run.t1 hj hp h.get (h1 j p hj hp hd))
  · rcases Nat.lt_or_ge i j with h3 | h3
    · exact h.nd (h.cl j i hn (h.run.t1 h3 h.get hp (h2 j p h3 hp hd)))
    · have : j = i := by omega
      subst this; exact h.nd hn
theorem Now.ctLook {t : Nat} (ht : t ∈ o.looksAt ops) : CT ops Dn t i := by
  refine h.ct (fun j p hj hp hd => ?_) (fun j p hj hp hd => ?_)
  · cases hc : p.apart ops o with
    | false => rfl
    | true => exact absurd ht ((Oper.apart_spec hc).1 t hd)
  · cases hc : o.apart ops p with
    | false => rfl
    | true => exact absurd ht ((Oper.apart_spec hc).2.2 t hd)
theorem Now.cmV {b : Nat} (hv : Vi D M i b) : CM ops D M Dn b i := by
  refine ⟨fun j hj hw => h.anc j (h.run.f1 hj h.lt hw hv), fun j hj hjs hw hn => ?_⟩
  rcases Nat.lt_or_ge i j with h3 | h3
  · exact h.nd (h.cl j i hn (h.run.f2 h3 hjs hv hw))
  · have : j = i := by omega
    subst this; exact h.nd hn
theorem Now.cmW {b : Nat} (hv : Wr D M i b) : CM ops D M Dn b i := by
  refine ⟨fun j hj hw => h.anc j (h.run.f3 hj h.lt hw hv), fun j hj hjs hw hn => ?_⟩
  rcases Nat.lt_or_ge i j with h3 | h3
  · exact h.nd (h.cl j i hn (h.run.f3 h3 hjs hv hw))
  · have : j = i := by omega
    subst this; exact h.nd hn
theorem Now.n0 : (D 0).s.n ≤ (D i).s.n := h.run.mono (Nat.zero_le _) (Nat.le_of_lt h.lt)
theorem Now.live {b : Nat} {x : HO} (hb : (D i).s.look (M i).hid b = some x) : b < (D i).s.n ∧ Vi D M i b ∧ Live cx ops D M Dn b i x := by
  obtain ⟨h1, h2⟩ := Hs.look_some.1 hb
  have hlt : b < (D i).s.n := by
    rcases Nat.lt_or_ge b (D i).s.n with h3 | h3
    · exact h3
    · obtain ⟨x', h4⟩ := h.run.above (Nat.le_of_lt h.lt) h3 h2
      have := h.n0
      exact absurd (@SatH.lt G0 _ _ _ _ _ h.ini b x' (Hs.look_some.2 ⟨h.run.hidn b (by omega), h4⟩)) (by omega)
  exact ⟨hlt, ⟨hlt, h1⟩, Nat.le_of_lt h.lt, h.cmV ⟨hlt, h1⟩, h.run.vis h.lt ⟨hlt, h1⟩, h2⟩

/-- What forerunners made lies in the scope of the operation. -/
theorem Now.goodS {j b : Nat} (hj : An (ancL ops.toList []) i j) (hs : Sj ops D j b) : @Gd (GI G0 ops D i) (D i).s.n b := by
  obtain ⟨j', h1, h2, h3⟩ := hs
  have hja : An (ancL ops.toList []) i j' := by
    rcases h1 with rfl | h1
    · exact hj
    · exact an_trans h.run.back _ _ _ hj h1
  have hlt := an_lt h.run.back _ _ hja
  have h4 := h.run.mono (k := 0) (k' := j') (Nat.zero_le _) (by have := h.lt; omega)
  have h5 := h.run.mono (k := j' + 1) (k' := i) (by omega) (Nat.le_of_lt h.lt)
  refine ⟨by omega, ?_⟩
  rintro (h6 | ⟨_, _, h6⟩)
  · exact @SatH.good G0 _ _ _ _ _ h.ini b (by omega) h6
  · exact h6 ⟨j', hja, h2, h3⟩
theorem Now.goodO {b : Nat} (hs : Old G0 D b) : @Gd (GI G0 ops D i) (D i).s.n b := by
  have h1 := h.n0
  have h2 := hs.1
  refine ⟨by omega, ?_⟩
  rintro (h6 | ⟨h7, _, _⟩)
  · exact hs.2 h6
  · omega

theorem Now.sat : @SatH (GI G0 ops D i) w0 ρ ⟨cx.g, cx.l, (M i).fl, (M i).hid⟩ (D i).s w := by
  have hfl := h.run.flk h.lt
  have hi := h.ini
  have gn := @SatH.gn G0 _ _ _ _ _ hi
  have ln := @SatH.ln G0 _ _ _ _ _ hi
  have fln := h.run.fln
  have n0 := h.n0
  refine @SatH.mk (GI G0 ops D i) _ _ _ _ _ ?_ ?_ ?_ ?_ ?_ ?_ ?_ ?_ ?_ ?_ ?_ ?_ ?_
  · exact fun g hg => by
      have := h.inv.ext g (by have hg : g < cx.g := hg; omega)
      rw [this.1, this.2.1]; exact @SatH.gl G0 _ _ _ _ _ hi g hg
  · exact fun g hg => by
      have hg : g < cx.g := hg
      rintro (h6 | ⟨h7, _, _⟩)
      · exact @SatH.glg G0 _ _ _ _ _ hi g hg h6
      · omega
  · exact fun b hb => by
      rintro (h6 | ⟨h7, h8, _⟩)
      · exact @SatH.good G0 _ _ _ _ _ hi b (by omega) h6
      · omega
  · exact gn
  · show cx.l ≤ (M i).fl; omega
  · exact hfl.2
  · exact fun b hb => h.run.upk h.lt hb
  · exact h.inv.below
  · exact fun b x hb => (h.live hb).1
  · exact fun b x hb => by
      obtain ⟨k1, k2, k3⟩ := h.live hb
      obtain ⟨j1, j2, _, _⟩ := h.inv.obj b i x k3
      refine holds_on j2 (fun c hc => ?_) (fun c hc => ⟨rfl, rfl, rfl⟩) ⟨rfl, rfl, rfl⟩ rfl
      rcases Classical.not_not.1 hc.2 with h6 | ⟨j, h6, h7, h8⟩
      · exact h.goodO h6
      · exact h.goodS (h.run.f1 h6 h.lt h7 k2) h8
  · exact fun b x hb hl => (h.inv.obj b i x (h.live hb).2.2).2.2.1 hl
  · exact fun b x hb hl => (h.inv.obj b i x (h.live hb).2.2).2.2.2 hl
  · exact fun b b' x x' hb hb' hl hl' e => h.inv.inj b b' i i x x' (h.live hb).2.2 (h.live hb').2.2 hl hl' e

theorem Now.slot {t : Nat} {v : AV} (ht : t ∈ o.looksAt ops) (hv : getA (D i).t t = some v) : @Sc (GI G0 ops D i) (D i).s.n v ∧ a.tmps[t]? = some (den ρ v) := by
  obtain ⟨h1, h2, h3⟩ := h.inv.tmp t i v (Nat.le_of_lt h.lt) (h.ctLook ht) hv
  refine ⟨sc_imp (fun c hc => ?_) v h3, h2⟩
  rcases Classical.not_not.1 hc.2 with h6 | ⟨j, h6, ⟨p, h7, h8⟩, h9⟩
  · exact h.goodO h6
  · refine h.goodS (h.run.t1 h6 h7 h.get ?_) h9
    cases hc : p.apart ops o with
    | false => rfl
    | true => exact absurd ht ((Oper.apart_spec hc).1 t h8)
theorem Now.vals (hg : cx.g = tb.g) : @Vals (GI G0 ops D i) tb ρ (D i).s.n a (D i).t o.op := by
  intro x hx v hv
  cases x with
  | tmp t =>
    obtain ⟨h1, h2⟩ := h.slot (t := t) (List.mem_append_left _ (List.mem_filterMap.2 ⟨.tmp t, by simpa using hx, rfl⟩)) hv
    exact ⟨h1, by simp [Act.eval, h2]⟩
  | const u => cases hv; exact ⟨trivial, rfl⟩
  | global g =>
    obtain ⟨h1, h2⟩ := gd_some.1 hv
    cases h2
    have h3 : g < cx.g := by have := ble_iff.1 h1; omega
    have hs := h.sat
    obtain ⟨h4, h5⟩ := @SatH.gl (GI G0 ops D i) _ _ _ _ _ hs g h3
    refine ⟨⟨?_, @SatH.glg (GI G0 ops D i) _ _ _ _ _ hs g h3⟩, ?_⟩
    · have := @SatH.gn G0 _ _ _ _ _ h.ini
      have := @SatH.ln G0 _ _ _ _ _ h.ini
      have := h.run.fln
      have := h.n0
      omega
    · simp [Act.eval, den, h4, h5]
  | func f => cases hv; exact ⟨trivial, rfl⟩
end
end Ev
end Go.Proofs.YtipjmaimjchckaaGreatDoor

/-! REGIONS THAT DRAW: one operation keeps the invariant. -/
set_option linter.unusedSimpArgs false
set_option linter.unusedVariables false
set_option linter.unusedSectionVars false
namespace Go.Proofs.YtipjmaimjchckaaGreatDoor
open Go.RowKit
namespace Ev
/-- The environment in which the blocks of one operation are added. -/
def mix (ρ ρ' : Env) (lo hi : Nat) : Env :=
  ⟨fun b => if lo ≤ b ∧ b < hi then ρ'.blk b else ρ.blk b, fun b => if lo ≤ b ∧ b < hi then ρ'.off b else ρ.off b, fun b => if lo ≤ b ∧ b < hi then ρ'.cp b else ρ.cp b⟩
theorem mix_in {ρ ρ' : Env} {lo hi b : Nat} (h : Ext lo ρ ρ') (hb : b < hi) : AgreeAt ρ' (mix ρ ρ' lo hi) b := by
  unfold AgreeAt mix
  by_cases hl : lo ≤ b
  · simp only [hl, hb, and_self, if_true]
  · have := h b (by omega)
    simp only [hl, false_and, if_false]
    exact ⟨this.1.symm, this.2.1.symm, this.2.2.symm⟩
theorem mix_out {ρ ρ' : Env} {lo hi b : Nat} (hb : ¬ (lo ≤ b ∧ b < hi)) : AgreeAt ρ (mix ρ ρ' lo hi) b := by
  unfold AgreeAt mix
  simp only [hb, if_false, and_self]

section
variable {G0 : Gh} {w0 ws : World} {tb : Tab} {call : CallT} {cx : Cx} {N : Nat} {ops : Array Oper} {D : Nat → Ds} {M : Nat → Md} {ρ0 ρ ρ' : Env} {ds : List Deferred} {Dn : Nat → Prop} {w w' : World} {a : Act} {i : Nat} {o : Oper}
variable (h : Now tb call G0 w0 ws cx N ops D M ρ0 ds Dn ρ w a i o)
variable (hst : @Stp (GI G0 ops D i) w0 ρ ρ' ⟨cx.g, cx.l, (M i).fl, (M i).hid⟩ (D i).s (D (i + 1)).s w w')
include h

theorem Now.ivNe {j b : Nat} (hj : Dn j) (hjs : j < ops.size) (hb : Iv D j b) : ¬ ((D i).s.n ≤ b ∧ b < (D (i + 1)).s.n) := by
  rintro ⟨h1, h2⟩
  obtain ⟨h3, h4⟩ := hb
  have hi := h.lt
  rcases Nat.lt_trichotomy j i with h5 | h5 | h5
  · have := h.run.mono (k := j + 1) (k' := i) (by omega) (by omega); omega
  · subst h5; exact h.nd hj
  · have := h.run.mono (k := i + 1) (k' := j) (by omega) (by omega); omega
theorem Now.sjOut {j b : Nat} (hj : Dn j) (hjs : j < ops.size) (hs : Sj ops D j b) : ¬ ((D i).s.n ≤ b ∧ b < (D (i + 1)).s.n) := by
  obtain ⟨j', h1, h2⟩ := hs
  rcases h1 with rfl | h1
  · exact h.ivNe hj hjs h2
  · exact h.ivNe (h.cl _ _ hj h1) (by have := an_lt h.run.back _ _ h1; omega) h2
theorem Now.oldOut {b : Nat} (hs : Old G0 D b) : ¬ ((D i).s.n ≤ b ∧ b < (D (i + 1)).s.n) := by
  have := h.n0
  have := hs.1
  omega
theorem Now.sizeOf {j : Nat} {p : Oper} (hp : ops[j]? = some p) : j < ops.size := by
  rcases Nat.lt_or_ge j ops.size with h1 | h1
  · exact h1
  · rw [Array.getElem?_eq_none h1] at hp; cases hp
/-- What the operation's results name. -/
theorem Now.scIn {b : Nat} (hb : @Gd (GI G0 ops D i) (D (i + 1)).s.n b) : b < (D ops.size).s.n ∧ (Old G0 D b ∨ Sj ops D i b) := by
  have hi := h.lt
  have h1 := h.run.mono (k := i + 1) (k' := ops.size) (by omega) (by omega)
  obtain ⟨h2, h3⟩ := hb
  refine ⟨by omega, ?_⟩
  by_cases h4 : b < (D 0).s.n
  · exact .inl ⟨h4, fun hb => h3 (.inl hb)⟩
  · right
    by_cases h5 : (D i).s.n ≤ b
    · exact ⟨i, .inl rfl, h5, h2⟩
    · by_cases h6 : ∃ j, An (ancL ops.toList []) i j ∧ Iv D j b
      · obtain ⟨j, h7, h8⟩ := h6; exact ⟨j, .inr h7, h8⟩
      · exact absurd (.inr ⟨by omega, by omega, h6⟩) h3

theorem Now.ctOld {t k : Nat} (hw : ¬ wrT ops i t) (hc : CT ops (fun j => Dn j ∨ j = i) t k) : CT ops Dn t k := by
  refine ⟨fun j hj hp => ?_, fun j hj hp hn => hc.2 j hj hp (.inl hn)⟩
  rcases hc.1 j hj hp with h1 | rfl
  · exact h1
  · exact absurd hp hw
theorem Now.cmOld {b k : Nat} (hw : ¬ Wr D M i b) (hc : CM ops D M (fun j => Dn j ∨ j = i) b k) : CM ops D M Dn b k := by
  refine ⟨fun j hj hp => ?_, fun j hj hjs hp hn => hc.2 j hj hjs hp (.inl hn)⟩
  rcases hc.1 j hj hp with h1 | rfl
  · exact h1
  · exact absurd hp hw
theorem Now.ctNew {t k : Nat} (hw : wrT ops i t) (hc : CT ops (fun j => Dn j ∨ j = i) t k) (hk : k ≤ ops.size) : i < k ∧ getA (D k).t t = some (M i).v ∧ t < N := by
  obtain ⟨o', h1, h2⟩ := hw
  have hi := h.lt
  rw [h.get] at h1; cases h1
  have hik : i < k := by
    rcases Nat.lt_or_ge i k with h3 | h3
    · exact h3
    · exact absurd (.inr rfl) (hc.2 i h3 ⟨o, h.get, h2⟩)
  obtain ⟨h3, h4⟩ := h.run.tset hi h.get h2
  refine ⟨hik, ?_, h4⟩
  rw [← h3]
  refine h.run.tkeep (by omega) hk (fun j hj hjk p hp hd => ?_)
  have hap : o.apart ops p = false := by
    cases hx : o.apart ops p with
    | false => rfl
    | true => exact absurd hd ((Oper.apart_spec hx).2.1 t h2)
  have han := h.run.t1 (by omega) h.get hp hap
  rcases hc.1 j hjk ⟨p, hp, hd⟩ with h5 | h5
  · exact h.nd (h.cl _ _ h5 han)
  · omega
theorem Now.cmNew {b k : Nat} {x : HO} (hw : Wr D M i b) (hl : Live cx ops D M (fun j => Dn j ∨ j = i) b k x) : i < k ∧ (D (i + 1)).s.look (M i).hid b = some x := by
  obtain ⟨hk, hc, h1, h2⟩ := hl
  have hi := h.lt
  obtain ⟨_, _, w3, _, w5⟩ := h.run.wis hi hw
  have hik : i < k := by
    rcases Nat.lt_or_ge i k with h3 | h3
    · exact h3
    · exact absurd (.inr rfl) (hc.2 i h3 hi hw)
  refine ⟨hik, Hs.look_some.2 ⟨w3, ?_⟩⟩
  rw [← h.run.keep (k := i + 1) (by omega) hk w5 (fun j hj hjk hwj => ?_)]
  · exact h2
  · have han := h.run.f3 (i := i) (j := j) (by omega) (by omega) hw hwj
    rcases hc.1 j hjk hwj with h5 | h5
    · exact h.nd (h.cl _ _ h5 han)
    · omega

include hst
theorem Now.wrLive {c : Nat} {x : HO} (hf : (M i).fl ≤ c) (hb : (D i).s.look (M i).hid c = some x) : Wr D M i c ∧ Live cx ops D M Dn c i x := by
  obtain ⟨k1, k2, k3⟩ := h.live hb
  exact ⟨.inr ⟨k1, hf, k2.2⟩, k3⟩
theorem Now.lfl : cx.l ≤ (M i).fl := Nat.le_trans (@SatH.ln G0 _ _ _ _ _ h.ini) (h.run.flk h.lt).1

/-- THE STEP. -/
theorem Now.step (hv : @Sc (GI G0 ops D i) (D (i + 1)).s.n (M i).v) :
    Inv G0 w0 ws cx N ops D M ρ0 ds (fun j => Dn j ∨ j = i) (mix ρ ρ' (D i).s.n (D (i + 1)).s.n) w' (a.put o.dst (den ρ' (M i).v)) := by
  have hi := h.lt
  have n0 := h.n0
  have hext := @Stp.ext (GI G0 ops D i) _ _ _ _ _ _ _ _ hst
  have hsat := @Stp.sat (GI G0 ops D i) _ _ _ _ _ _ _ _ hst
  have hfr := @Stp.fr (GI G0 ops D i) _ _ _ _ _ _ _ _ hst
  have hnew := @Stp.new (GI G0 ops D i) _ _ _ _ _ _ _ _ hst
  have hlfl := h.lfl hst
  have hflk := h.run.flk hi
  have agIn : ∀ b, b < (D (i + 1)).s.n → AgreeAt ρ' (mix ρ ρ' (D i).s.n (D (i + 1)).s.n) b := fun b hb => mix_in hext hb
  have agOut : ∀ b, ¬ ((D i).s.n ≤ b ∧ b < (D (i + 1)).s.n) → AgreeAt ρ (mix ρ ρ' (D i).s.n (D (i + 1)).s.n) b := fun b hb => mix_out hb
  have noW : ∀ b, ¬ Wr D M i b → ¬ ((D i).s.n ≤ b ∧ b < (D (i + 1)).s.n) := fun b hw hb => hw (.inl hb)
  have wasOld : ∀ {b k x}, ¬ Wr D M i b → Live cx ops D M (fun j => Dn j ∨ j = i) b k x → Live cx ops D M Dn b k x :=
    fun hw hl => ⟨hl.1, h.cmOld hw hl.2.1, hl.2.2⟩
  -- a block that the operation does not write is none of those that it may write
  have apart : ∀ {b k x}, ¬ Wr D M i b → Live cx ops D M Dn b k x → ∀ c x', (M i).fl ≤ c → (D i).s.look (M i).hid c = some x' → ρ.blk c ≠ ρ.blk b := by
    intro b k x hw hl c x' hf hc e
    obtain ⟨k1, k2⟩ := h.wrLive hst hf hc
    have hlc : cx.l ≤ c := Nat.le_trans hlfl hf
    rcases Nat.lt_or_ge b cx.l with hb | hb
    · have := (h.inv.obj b k x hl).2.2.2 hb
      have := (h.inv.obj c i x' k2).2.2.1 hlc
      omega
    · have := h.inv.inj c b i k x' x k2 hl hlc hb e
      subst this; exact hw k1
  refine ⟨?_, ?_, ?_, @SatH.below (GI G0 ops D i) _ _ _ _ _ hsat, ?_, ?_, ?_, ?_, ?_⟩
  · have := h.inv.size
    cases hd : o.dst <;> simp [Act.put, this]
  · rw [put_defers]; exact h.inv.defers
  · intro b hb
    have h1 := h.inv.ext b hb
    have h2 := agOut b (by omega)
    exact ⟨h2.1.trans h1.1, h2.2.1.trans h1.2.1, h2.2.2.trans h1.2.2⟩
  · -- slots
    intro t k v hk hc hg
    by_cases hw : wrT ops i t
    · obtain ⟨h1, h2, h3⟩ := h.ctNew hw hc hk
      rw [h2] at hg; cases hg
      obtain ⟨o', k1, k2⟩ := id hw
      rw [h.get] at k1; cases k1
      refine ⟨h3, ?_, sc_imp (fun b hb => ?_) _ hv⟩
      · rw [k2]
        have hden : den (mix ρ ρ' (D i).s.n (D (i + 1)).s.n) (M i).v = den ρ' (M i).v := den_on (fun b hb => agIn b hb.1) _ hv
        rw [hden]
        simp [Act.put, Array.getElem?_setIfInBounds, h.inv.size, h3]
      · obtain ⟨h4, h5⟩ := h.scIn hb
        refine ⟨h4, Classical.not_not.2 ?_⟩
        rcases h5 with h5 | h5
        · exact .inl h5
        · exact .inr ⟨i, h1, hw, h5⟩
    · have hc' := h.ctOld hw hc
      obtain ⟨h1, h2, h3⟩ := h.inv.tmp t k v hk hc' hg
      refine ⟨h1, ?_, h3⟩
      have hden : den (mix ρ ρ' (D i).s.n (D (i + 1)).s.n) v = den ρ v := den_on (fun b hb => agOut b (by
        rcases Classical.not_not.1 hb.2 with h6 | ⟨j, h6, h7, h8⟩
        · exact h.oldOut h6
        · obtain ⟨p, h9, _⟩ := id h7
          exact h.sjOut (hc'.1 j h6 h7) (h.sizeOf h9) h8)) _ h3
      rw [hden, ← h2]
      cases hd : o.dst with
      | none => rfl
      | some d =>
        have : d ≠ t := fun e => hw ⟨o, h.get, by rw [hd, e]⟩
        simp only [Act.put]; rw [Array.getElem?_setIfInBounds_ne this]
  · -- blocks
    intro b k x hl
    by_cases hw : Wr D M i b
    · obtain ⟨h1, h2⟩ := h.cmNew hw hl
      obtain ⟨_, _, _, w4, w5⟩ := h.run.wis hi hw
      have hm := h.run.mono (k := i + 1) (k' := k) (by omega) hl.1
      refine ⟨by omega, ?_, ?_, ?_⟩
      · refine holds_on (@SatH.obj (GI G0 ops D i) _ _ _ _ _ hsat b x h2) (fun c hc => ?_) (fun c hc => agIn c hc.1) (agIn b w5) rfl
        obtain ⟨h4, h5⟩ := h.scIn hc
        refine ⟨h4, Classical.not_not.2 ?_⟩
        rcases h5 with h5 | h5
        · exact .inl h5
        · exact .inr ⟨i, h1, hw, h5⟩
      · intro hl'; rw [(agIn b w5).1]; exact @SatH.new (GI G0 ops D i) _ _ _ _ _ hsat b x h2 hl'
      · intro hl'; omega
    · have hl' := wasOld hw hl
      obtain ⟨h1, h2, h3, h4⟩ := h.inv.obj b k x hl'
      have hag := agOut b (noW b hw)
      refine ⟨h1, ?_, ?_, ?_⟩
      · refine holds_on h2 (fun c hc => hc) (fun c hc => agOut c ?_) hag ?_
        · rcases Classical.not_not.1 hc.2 with h6 | ⟨j, h6, h7, h8⟩
          · exact h.oldOut h6
          · exact h.sjOut (hl'.2.1.1 j h6 h7) (by have := hl.1; omega) h8
        · exact hfr.block _ (@HO.Holds.lt (GM G0 ops D M b k) _ _ _ _ _ h2) (apart hw hl')
      · intro q; rw [hag.1]; exact h3 q
      · intro q; rw [hag.1]; exact h4 q
  · -- no two blocks are one
    intro b b' k k' x x' hl hl' hb hb' e
    have mixed : ∀ {b b' k k' x x'}, Live cx ops D M (fun j => Dn j ∨ j = i) b k x → Live cx ops D M (fun j => Dn j ∨ j = i) b' k' x' → cx.l ≤ b → cx.l ≤ b' → Wr D M i b → ¬ Wr D M i b' →
        (mix ρ ρ' (D i).s.n (D (i + 1)).s.n).blk b ≠ (mix ρ ρ' (D i).s.n (D (i + 1)).s.n).blk b' := by
      intro b b' k k' x x' hl hl' hb hb' hw hw' e
      obtain ⟨_, _, _, w4, w5⟩ := h.run.wis hi hw
      have hl'' := wasOld hw' hl'
      rw [(agIn b w5).1, (agOut b' (noW b' hw')).1] at e
      obtain ⟨_, h2, _⟩ := h.inv.obj b' k' x' hl''
      have hlt := @HO.Holds.lt (GM G0 ops D M b' k') _ _ _ _ _ h2
      rcases hnew b x (h.cmNew hw hl).2 w4 with h5 | ⟨b0, o0, h5, h6, h7⟩
      · omega
      · exact apart hw' hl'' b0 o0 h5 h6 (h7.trans e)
    by_cases hw : Wr D M i b <;> by_cases hw' : Wr D M i b'
    · obtain ⟨_, _, _, w4, w5⟩ := h.run.wis hi hw
      obtain ⟨_, _, _, w4', w5'⟩ := h.run.wis hi hw'
      rw [(agIn b w5).1, (agIn b' w5').1] at e
      exact @SatH.inj (GI G0 ops D i) _ _ _ _ _ hsat b b' x x' (h.cmNew hw hl).2 (h.cmNew hw' hl').2 hb hb' e
    · exact absurd e (mixed hl hl' hb hb' hw hw')
    · exact absurd e.symm (mixed hl' hl hb' hb hw' hw)
    · rw [(agOut b (noW b hw)).1, (agOut b' (noW b' hw')).1] at e
      exact h.inv.inj b b' k k' x x' (wasOld hw hl) (wasOld hw' hl') hb hb' e
  · -- what else lies in the world
    refine ⟨hfr.os.trans h.inv.fr.os, hfr.tape.trans h.inv.fr.tape, hfr.output.trans h.inv.fr.output, Nat.le_trans h.inv.fr.size hfr.size, fun r hr hn => ?_⟩
    rw [hfr.block r (Nat.lt_of_lt_of_le hr h.inv.fr.size) (fun c x hf hc e => ?_)]
    · exact h.inv.fr.block r hr hn
    · obtain ⟨k1, k2⟩ := h.wrLive hst hf hc
      rcases h.inv.new c i x k2 (Nat.le_trans hflk.1 hf) with h5 | ⟨b0, o0, h5, h6, h7⟩
      · omega
      · exact hn b0 o0 h5 h6 (h7.trans e)
  · intro b k x hl hf
    by_cases hw : Wr D M i b
    · obtain ⟨_, _, _, w4, w5⟩ := h.run.wis hi hw
      rw [(agIn b w5).1]
      rcases hnew b x (h.cmNew hw hl).2 w4 with h5 | ⟨b0, o0, h5, h6, h7⟩
      · exact .inl (Nat.le_trans h.inv.fr.size h5)
      · obtain ⟨k1, k2⟩ := h.wrLive hst h5 h6
        rw [← h7]
        exact h.inv.new b0 i o0 k2 (Nat.le_trans hflk.1 h5)
    · rw [(agOut b (noW b hw)).1]
      exact h.inv.new b k x (wasOld hw hl) hf
end
end Ev
end Go.Proofs.YtipjmaimjchckaaGreatDoor

/-! REGIONS THAT DRAW are right. -/
set_option linter.unusedSimpArgs false
set_option linter.unusedVariables false
set_option linter.unusedSectionVars false
namespace Go.Proofs.YtipjmaimjchckaaGreatDoor
open Go.RowKit
namespace Ev

theorem binds_eq (e : Edge) : Region.binds .any e = binding e := by
  obtain ⟨on, g⟩ := e
  cases g <;> rfl

section
variable {G0 : Gh} {w0 ws : World} {tb : Tab} {call : CallT} {cx : Cx} {N : Nat} {ops : Array Oper} {D : Nat → Ds} {M : Nat → Md} {ρ0 ρ : Env} {ds : List Deferred} {Dn : Nat → Prop} {w : World} {a : Act} {i : Nat} {o : Oper}
  {Q : Exit → Act → World → Prop}

theorem Now.op (h : Now tb call G0 w0 ws cx N ops D M ρ0 ds Dn ρ w a i o) (hT : TabOk tb w0) (hc : CallOk tb w0 call) (hg : cx.g = tb.g) (hl : cx.l = tb.l) {K : Act → World → Prop}
    (hK : ∀ ρ' w' a', Inv G0 w0 ws cx N ops D M ρ0 ds (fun j => Dn j ∨ j = i) ρ' w' a' → K a' w') : wpOp tb.p ops Q i K a w := by
  obtain ⟨o', an, k1, k2, k3⟩ := h.run.at' h.lt
  have k4 := k1
  rw [h.get] at k1; cases k1
  have hw := wantA_some' (ρ := ρ) (a := a) (ops := ops) rfl k3.want (fun d v hd hv => (h.slot hd hv).2)
  unfold wpOp
  rw [k4]
  dsimp only
  rw [hw]
  rcases k3.run with ⟨s1, s2, s3, _⟩ | ⟨s1, s2, _⟩
  · rw [s1]
    refine hK _ w _ (?_ : Inv G0 w0 ws cx N ops D M ρ0 ds (fun j => Dn j ∨ j = i) (mix ρ ρ (D i).s.n (D (i + 1)).s.n) w (a.put o.dst undef))
    have hst := @Stp.refl (GI G0 ops D i) _ _ _ _ _ h.sat
    have := h.step (ρ' := ρ) (w' := w) (by rw [s3]; exact hst) (by rw [s2]; trivial)
    rw [s2] at this
    exact this
  · rw [s1]
    refine .inl ?_
    refine @op_sound (GI G0 ops D i) tb w0 ρ ⟨cx.g, cx.l, (M i).fl, (M i).hid⟩ (D i).s (D (i + 1)).s w a (D i).t call (M i).v hT hc o s2 hg hl h.sat (h.vals hg) _ _ (fun ρ' w' hst hv => ?_)
    exact hK _ w' _ (h.step hst hv)

/-- Ahead of the first operation. -/
theorem inv_init (hR : Run tb call cx N ops D M) (hs : @SatH G0 w0 ρ0 cx (D 0).s ws) (ht : @SatT G0 N ρ0 (D 0).s.n a (D 0).t) (hn : ∀ j, ¬ Dn j) :
    Inv G0 w0 ws cx N ops D M ρ0 a.defers Dn ρ0 ws a := by
  have hiv : ∀ k b, k ≤ ops.size → (D 0).s.n ≤ b → b < (D k).s.n → ∃ j, j < k ∧ Iv D j b := by
    intro k b hk h1
    induction k with
    | zero => intro h2; omega
    | succ k ih =>
      intro h2
      rcases Nat.lt_or_ge b (D k).s.n with h3 | h3
      · obtain ⟨j, h4, h5⟩ := ih (by omega) h3; exact ⟨j, by omega, h5⟩
      · exact ⟨k, by omega, h3, h2⟩
  have hold : ∀ {b k o}, Live cx ops D M Dn b k o → (D 0).s.look cx.hid b = some o ∧ b < (D 0).s.n := by
    rintro b k o ⟨hk, hc, h1, h2⟩
    have hnw : ∀ j, j < k → ¬ Wr D M j b := fun j hj hw => hn j (hc.1 j hj hw)
    have hb : b < (D 0).s.n := by
      rcases Nat.lt_or_ge b (D 0).s.n with h3 | h3
      · exact h3
      · rcases Nat.lt_or_ge b (D k).s.n with h4 | h4
        · obtain ⟨j, h5, h6⟩ := hiv k b hk h3 h4
          exact absurd (.inl h6) (hnw j h5)
        · obtain ⟨o', h5⟩ := hR.above hk h4 h2
          exact @SatH.lt G0 _ _ _ _ _ hs b o' (Hs.look_some.2 ⟨h1, h5⟩)
    exact ⟨Hs.look_some.2 ⟨h1, by rw [← hR.keep (Nat.zero_le k) hk hb (fun j _ hj => hnw j hj)]; exact h2⟩, hb⟩
  refine ⟨@SatT.size G0 _ _ _ _ _ ht, rfl, Ext.refl _ _, @SatH.below G0 _ _ _ _ _ hs, fun t k v hk hc hv => ?_, fun b k o hl => ?_, fun b b' k k' o o' hl hl' => ?_, Fr.refl _ _ _ _, fun b k o hl hf => ?_⟩
  · rw [hR.tkeep (Nat.zero_le k) hk (fun j _ hj o ho hd => hn j (hc.1 j hj ⟨o, ho, hd⟩))] at hv
    obtain ⟨h1, h2, h3⟩ := @SatT.val G0 _ _ _ _ _ ht t v hv
    refine ⟨h2, h3, sc_imp (G := G0) (G' := GT G0 ops D t k) (fun b hb => ?_) v h1⟩
    exact ⟨Nat.lt_of_lt_of_le hb.1 (hR.mono (Nat.zero_le _) (Nat.le_refl _)), Classical.not_not.2 (.inl hb)⟩
  · obtain ⟨h1, h2⟩ := hold hl
    refine ⟨Nat.lt_of_lt_of_le h2 (hR.mono (Nat.zero_le _) hl.1), ?_, fun q => @SatH.new G0 _ _ _ _ _ hs b o h1 q, fun q => @SatH.old G0 _ _ _ _ _ hs b o h1 q⟩
    refine holds_on (@SatH.obj G0 _ _ _ _ _ hs b o h1) (fun c hc => ?_) (fun c hc => ⟨rfl, rfl, rfl⟩) ⟨rfl, rfl, rfl⟩ rfl
    exact ⟨Nat.lt_of_lt_of_le hc.1 (hR.mono (Nat.zero_le _) (Nat.le_refl _)), Classical.not_not.2 (.inl hc)⟩
  · exact @SatH.inj G0 _ _ _ _ _ hs b b' o o' (hold hl).1 (hold hl').1
  · exact .inr ⟨b, o, hf, (hold hl).1, rfl⟩

/-- Behind the last operation. -/
theorem inv_end (hR : Run tb call cx N ops D M) (hs : @SatH G0 w0 ρ0 cx (D 0).s ws) (hn : ∀ j, j < ops.size → Dn j) (h : Inv G0 w0 ws cx N ops D M ρ0 ds Dn ρ w a) :
    @Stp G0 w0 ρ0 ρ cx (D 0).s (D ops.size).s ws w ∧ @SatT G0 N ρ (D ops.size).s.n a (D ops.size).t := by
  have hmono := hR.mono (Nat.zero_le _) (Nat.le_refl ops.size)
  have hsj : ∀ {j b}, j < ops.size → Sj ops D j b → ¬ G0.bad b := by
    rintro j b hj ⟨j', h1, h2, h3⟩
    have hlt : j' ≤ j := by
      rcases h1 with rfl | h1
      · exact Nat.le_refl _
      · exact Nat.le_of_lt (an_lt hR.back _ _ h1)
    exact @SatH.good G0 _ _ _ _ _ hs b (Nat.le_trans (hR.mono (Nat.zero_le _) (by omega)) h2)
  have hlive : ∀ {b o}, (D ops.size).s.look cx.hid b = some o → Live cx ops D M Dn b ops.size o := by
    intro b o hb
    obtain ⟨h1, h2⟩ := Hs.look_some.1 hb
    exact ⟨Nat.le_refl _, ⟨fun j hj _ => hn j hj, fun j hj hjs => by omega⟩, h1, h2⟩
  have fln := hR.fln
  have gn := @SatH.gn G0 _ _ _ _ _ hs
  have ln := @SatH.ln G0 _ _ _ _ _ hs
  have hsat : @SatH G0 w0 ρ cx (D ops.size).s w := by
    refine @SatH.mk G0 _ _ _ _ _ ?_ (@SatH.glg G0 _ _ _ _ _ hs) ?_ gn ln (by omega) ?_ h.below ?_ ?_ ?_ ?_ ?_
    · intro g hg
      have := h.ext g (by omega)
      rw [this.1, this.2.1]; exact @SatH.gl G0 _ _ _ _ _ hs g hg
    · exact fun b hb => @SatH.good G0 _ _ _ _ _ hs b (by omega)
    · exact fun b hb => hR.hidn b (by omega)
    · exact fun b o hb => (h.obj b _ o (hlive hb)).1
    · intro b o hb
      refine holds_on (G' := G0) (h.obj b _ o (hlive hb)).2.1 (fun c hc => ⟨hc.1, ?_⟩) (fun c hc => ⟨rfl, rfl, rfl⟩) ⟨rfl, rfl, rfl⟩ rfl
      rcases Classical.not_not.1 hc.2 with h6 | ⟨j, h6, _, h8⟩
      · exact h6.2
      · exact hsj h6 h8
    · exact fun b o hb => (h.obj b _ o (hlive hb)).2.2.1
    · exact fun b o hb => (h.obj b _ o (hlive hb)).2.2.2
    · exact fun b b' o o' hb hb' => h.inj b b' _ _ o o' (hlive hb) (hlive hb')
  refine ⟨@Stp.mk G0 _ _ _ _ _ _ _ _ h.ext hsat hmono h.fr ?_ ?_, @SatT.mk G0 _ _ _ _ _ h.size ?_⟩
  · intro b hb hor
    refine hR.keep (Nat.zero_le _) (Nat.le_refl _) hb (fun j _ hj hw => ?_)
    obtain ⟨h1, h2, _⟩ := hR.wis hj hw
    rcases hor with h3 | h3
    · omega
    · rw [h1] at h3; cases h3
  · exact fun b o hb hf => h.new b _ o (hlive hb) hf
  · intro t v hv
    obtain ⟨h1, h2, h3⟩ := h.tmp t ops.size v (Nat.le_refl _) ⟨fun j hj _ => hn j hj, fun j hj ⟨p, hp, _⟩ => by rw [Array.getElem?_eq_none hj] at hp; cases hp⟩ hv
    refine ⟨sc_imp (G' := G0) (fun c hc => ⟨hc.1, ?_⟩) v h3, h1, h2⟩
    rcases Classical.not_not.1 hc.2 with h6 | ⟨j, h6, _, h8⟩
    · exact h6.2
    · exact hsj h6 h8

/-- What is listed. -/
def Ls (listed : Array Bool) (j : Nat) : Prop := listed.getD j false = true
theorem ls_lt {listed : Array Bool} {j : Nat} (h : Ls listed j) : j < listed.size := by
  unfold Ls at h
  rcases Nat.lt_or_ge j listed.size with h1 | h1
  · exact h1
  · simp [Array.getD, Nat.not_lt.2 h1] at h
theorem ls_set {listed : Array Bool} {i : Nat} (hi : i < listed.size) : Ls (listed.setIfInBounds i true) = fun j => Ls listed j ∨ j = i := by
  funext j
  apply propext
  unfold Ls
  by_cases e : i = j
  · subst e; simp [hi]
  · simp [Array.getElem?_setIfInBounds_ne e, Ne.symm e]
theorem count_set {listed : Array Bool} {i n : Nat} (hi : i < listed.size) (h : ¬ Ls listed i) (hc : listed.toList.count false ≤ n + 1) : (listed.setIfInBounds i true).toList.count false ≤ n := by
  rw [Array.toList_setIfInBounds, List.count_set (by simpa using hi)]
  have : listed[i] = false := by
    unfold Ls at h
    simpa [Array.getD, hi] using h
  have h2 : (listed.toList[i]'(by simpa using hi) == false) = true := by simp [this]
  have h3 : ((true : Bool) == false) = false := rfl
  simp only [h2, h3, if_true, Bool.false_eq_true, if_false]
  omega
theorem count_zero {listed : Array Bool} (h : listed.toList.count false = 0) {i : Nat} (hi : i < listed.size) : Ls listed i := by
  unfold Ls
  rw [List.count_eq_zero] at h
  cases hb : listed[i] with
  | true => simp [Array.getD, hi, hb]
  | false => exact absurd (by rw [← hb]; simp) h

theorem ready_iff {listed : Array Bool} (hsz : listed.size = ops.size) {i : Nat} : i ∈ Region.ready .any ops listed ↔ ∃ o, ops[i]? = some o ∧ ¬ Ls listed i ∧ ∀ e ∈ o.after.toList, binding e = true → Ls listed e.on := by
  unfold Region.ready Ls
  rw [List.mem_filter, List.mem_range, Bool.and_eq_true]
  constructor
  · rintro ⟨h1, h2, h3⟩
    have ho : ops[i]? = some ops[i] := Array.getElem?_eq_getElem h1
    refine ⟨_, ho, ?_, ?_⟩
    · have hi : i < listed.size := by omega
      simpa [Array.getD, hi] using h2
    · rw [ho] at h3
      simp only [Option.map_some, Option.getD_some, Array.all_eq_true'] at h3
      intro e he hb
      have := h3 e (by simpa using he)
      rw [binds_eq, hb] at this
      simpa using this
  · rintro ⟨o, ho, h2, h3⟩
    have h1 : i < ops.size := by
      rcases Nat.lt_or_ge i ops.size with h1 | h1
      · exact h1
      · rw [Array.getElem?_eq_none h1] at ho; cases ho
    have hi : i < listed.size := by omega
    refine ⟨h1, by simpa [Array.getD, hi] using h2, ?_⟩
    rw [ho]
    simp only [Option.map_some, Option.getD_some, Array.all_eq_true']
    intro e he
    rw [binds_eq]
    cases hb : binding e with
    | false => rfl
    | true => simpa using h3 e (by simpa using he) hb

theorem all_listed (hb : backOk ops.toList 0 = true) {listed : Array Bool} (hsz : listed.size = ops.size) (hr : Region.ready .any ops listed = []) : ∀ i, i < ops.size → Ls listed i := by
  intro i
  induction i using Nat.strongRecOn with
  | ind i ih =>
    intro hi
    apply Classical.byContradiction
    intro hn
    have : i ∈ Region.ready .any ops listed := (ready_iff hsz).2 ⟨ops[i], Array.getElem?_eq_getElem hi, hn, fun e he heb => by
      have := backOk_spec _ _ hb i ops[i] (by rw [Array.getElem?_toList]; exact Array.getElem?_eq_getElem hi) e he heb
      exact ih e.on (by omega) (by omega)⟩
    rw [hr] at this; cases this

theorem any_sound (hT : TabOk tb w0) (hc : CallOk tb w0 call) (hg : cx.g = tb.g) (hl : cx.l = tb.l) (hR : Run tb call cx N ops D M) (hs : @SatH G0 w0 ρ0 cx (D 0).s ws)
    (hq : ∀ ρ w a, @Stp G0 w0 ρ0 ρ cx (D 0).s (D ops.size).s ws w → @SatT G0 N ρ (D ops.size).s.n a (D ops.size).t → a.defers = ds → Q .normal a w) :
    ∀ (fuel : Nat) (listed : Array Bool) (ρ : Env) (w : World) (a : Act), listed.size = ops.size → listed.toList.count false ≤ fuel → (∀ j k, Ls listed j → An (ancL ops.toList []) j k → Ls listed k) →
      Inv G0 w0 ws cx N ops D M ρ0 ds (Ls listed) ρ w a → wpAny tb.p .any ops Q fuel listed a w := by
  intro fuel
  induction fuel with
  | zero =>
    intro listed ρ w a hsz hcnt hcl hinv
    have hall : ∀ i, i < ops.size → Ls listed i := fun i hi => count_zero (Nat.le_zero.1 hcnt) (by omega)
    refine ⟨?_, ?_⟩
    · cases hr : Region.ready .any ops listed with
      | nil => rfl
      | cons i r =>
        obtain ⟨o, ho, hn, _⟩ := (ready_iff hsz).1 (show i ∈ Region.ready .any ops listed by rw [hr]; exact List.mem_cons_self)
        have hi : i < ops.size := by
          rcases Nat.lt_or_ge i ops.size with h1 | h1
          · exact h1
          · rw [Array.getElem?_eq_none h1] at ho; cases ho
        exact absurd (hall i hi) hn
    · obtain ⟨h1, h2⟩ := inv_end hR hs hall hinv
      exact hq ρ w a h1 h2 hinv.defers
  | succ fuel ih =>
    intro listed ρ w a hsz hcnt hcl hinv
    refine ⟨fun hr => ?_, fun i hi => ?_⟩
    · obtain ⟨h1, h2⟩ := inv_end hR hs (all_listed hR.back hsz hr) hinv
      exact hq ρ w a h1 h2 hinv.defers
    · obtain ⟨o, ho, hn, he⟩ := (ready_iff hsz).1 hi
      have hilt : i < listed.size := by
        rcases Nat.lt_or_ge i ops.size with h1 | h1
        · omega
        · rw [Array.getElem?_eq_none h1] at ho; cases ho
      have hanc : ∀ j, An (ancL ops.toList []) i j → Ls listed j := fun j hj => by
        obtain ⟨e, k1, k2, k3⟩ := (an_iff hR.back ho).1 hj
        rcases k3 with rfl | k3
        · exact he e k1 k2
        · exact hcl _ _ (he e k1 k2) k3
      have hnow : Now tb call G0 w0 ws cx N ops D M ρ0 ds (Ls listed) ρ w a i o := ⟨hR, hs, hinv, ho, hn, hanc, hcl⟩
      refine hnow.op hT hc hg hl (fun ρ' w' a' hinv' => ?_)
      refine ih (listed.setIfInBounds i true) ρ' w' a' (by simp [hsz]) (count_set hilt hn hcnt) ?_ (by rw [ls_set hilt]; exact hinv')
      rw [ls_set hilt]
      rintro j k (hj | rfl) hjk
      · exact .inl (hcl j k hj hjk)
      · exact .inl (hanc k hjk)
end

section
variable [Gh] {w0 : World} {tb : Tab} {call : CallT} {cx : Cx} {N : Nat} {ops : Array Oper} {ρ : Env} {w : World} {a : Act} {Q : Exit → Act → World → Prop} {st st' : St}
/-- A REGION IS RIGHT. -/
theorem region_sound (hT : TabOk tb w0) (hc : CallOk tb w0 call) (hf : CallFr call) (hg : cx.g = tb.g) (hl : cx.l = tb.l) {id : Nat} {dr : Bool}
    (h : region tb call cx N ops dr st = some st') (hs : SatH w0 ρ cx st.s w) (ht : SatT N ρ st.s.n a st.t) (hd : DefsOk ρ st.s.n st.d a.defers)
    (hq : ∀ ρ' w' a', Stp w0 ρ ρ' cx st.s st'.s w w' → SatT N ρ' st'.s.n a' st'.t → DefsOk ρ' st'.s.n st'.d a'.defers → Q .normal a' w') : (Code.region id ops dr).wp tb.p Q a w := by
  cases dr with
  | false => exact seqRegion_sound hT hc hg hl h hs ht hd hq
  | true =>
    obtain ⟨h1, h2⟩ := gd_some.1 h
    obtain ⟨d, h3, h4⟩ := ob_some.1 h2
    cases h4
    have h1' : band (backOk ops.toList 0) (tOk ops ops.toList 0 (ancL ops.toList [])) = true := h1
    rw [band_eq, Bool.and_eq_true] at h1'
    obtain ⟨D, M, k1, k2, k3, k4⟩ := drawGo_run _ _ _ _ _ _ h3
    rw [Nat.zero_add, Array.length_toList] at k2
    have hs0 : SatH w0 ρ cx (D 0).s w := by rw [k1]; exact hs
    have hR : Run tb call cx N ops D M := {
      at_ := fun k o an ho ha => by
        have := k4 k o an (by rw [Array.getElem?_toList]; exact ho) ha
        rwa [Nat.zero_add] at this
      iv0 := by rw [k1]
      es0 := by rw [k1]
      fln := by rw [k1]; exact hs.fln
      hidn := by rw [k1]; exact hs.hidn
      back := h1'.1
      tok := h1'.2
      fr := hf }
    have hdrew : Stp w0 ρ ρ cx (D 0).s (D 0).s w { w with drawn := w.drawn + 1 } := hs0.world ⟨rfl, rfl, rfl, Nat.le_refl _, fun _ _ => rfl⟩
    refine wp_region_any hT.mixed ?_
    have hinit : ∀ j, ¬ Ls (Array.replicate ops.size false) j := fun j hj => by
      have hlt := ls_lt hj
      unfold Ls at hj
      simp at hlt
      simp [Array.getD, hlt] at hj
    refine any_sound hT hc hg hl hR hdrew.sat (ds := a.defers) (fun ρ' w' a' g1 g2 g3 => ?_) _ _ ρ _ a (by simp) ?_ (fun j k hj => absurd hj (hinit j)) (inv_init hR hdrew.sat (by rw [k1]; exact ht) hinit)
    · have g4 := hdrew.trans g1
      rw [k1, k2] at g4
      rw [k2] at g2
      exact hq ρ' w' a' g4 g2 (by rw [g3]; exact hd.ext g4.ext g4.n)
    · simp
end
end Ev
end Go.Proofs.YtipjmaimjchckaaGreatDoor

