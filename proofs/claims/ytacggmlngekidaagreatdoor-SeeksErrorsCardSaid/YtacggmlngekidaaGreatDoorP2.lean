import Derived.Test.YtacggmlngekidaaGreatDoorRows
import Derived.Test.YtacggmlngekidaaGreatDoorProg
import Derived.Test.YtacggmlngekidaaGreatDoorP1
import Derived.Lib.MakeNoZero
import Derived.Laws.Externs
import Derived.Shelf.Strings.Trim
import Derived.Shelf.Small.Utf8
import Derived.Shelf.Small.Strs
import Derived.Shelf.Strconv.Atoi
import Derived.Shelf.Strconv.Itoa0
import Derived.Shelf.Strconv.AtoiErrFast
import Derived.Shelf.Strconv.ParseIntEmpty
import Derived.Shelf.Strconv.AtoiFail
import Derived.Shelf.LaysM
import Derived.Shelf.Strconv.Clone
import Derived.Shelf.Strconv.SyntaxError
import Derived.Shelf.LaysC
import Derived.Shelf.Strconv.ToError
import Derived.Shelf.Strconv.Lower
import Derived.Shelf.Strconv.ParseUint10
import Derived.Shelf.Strconv.ParseUint10Empty
import Derived.Shelf.Strconv.ParseUint10Any
import Derived.Shelf.Strconv.ParseInt10
import Derived.Shelf.Strconv.AtoiLong
import Derived.Shelf.Strconv.AtoiInnerAll
import Derived.Shelf.Strconv.RangeError
import Derived.Shelf.Strconv.ToErrorRange
import Derived.Shelf.Strconv.AtoiAll
import Derived.Shelf.Strconv.ParseUintEmpty
import Derived.Shelf.Strconv.ParseUint10b64
import Derived.Shelf.Strconv.ParseUint10b32
import Derived.Shelf.Strconv.ParseUint10b16
import Derived.Shelf.Strconv.ParseUint10b8
import Derived.Shelf.Strconv.ParseUint10At
import Derived.Shelf.Strconv.ParseInt10At64
import Derived.Shelf.Strconv.ParseInt10At32
import Derived.Shelf.Strconv.ParseInt10At16
import Derived.Shelf.Strconv.ParseInt10At8
import Derived.Shelf.Strconv.ParseInt10All
import Derived.Shelf.Strconv.ParseIntPublic10
import Derived.Shelf.Strings.Search1
import Derived.Shelf.Strings.Search2
import Derived.Shelf.Strings.Search3
import Derived.Shelf.Strings.Shaped
import Derived.Shelf.GgClosure.StringsIndexFunc
import Derived.Ground.GgwProg
import Derived.Shelf.GgClosure.StringsIndexFuncTop
import Derived.Shelf.Strings.Runes
import Derived.Shelf.Strings.AsciiSet
import Derived.Shelf.Bits.Mul64
import Derived.Shelf.Unicode.DecodeSlow
import Derived.Shelf.Unicode.DecodeAny
import Derived.Shelf.Unicode.DecodeLast
import Derived.Shelf.Strings.FuncGrows
import Derived.Shelf.Slices.Reverse
import Derived.Ground.Names2Prog
import Derived.Shelf.Slices.Clone
import Derived.Shelf.Slices.Cells
import Derived.Ground.SlgnProg
import Derived.Shelf.SlicesE.Clone
import Derived.WalkKit
import Derived.WalkSpells
import Derived.WalkLawsBesides
import Derived.Lib.Hide
import Derived.LoopN
import Derived.Deep.RegionHeld3
import Derived.Deep.LoopGhost
import Derived.Deep.DeepCutAuto
import Derived.Laws.RangeAny
import Derived.Lib.AtoiAll
import Derived.Lib.ParseIntB
import Derived.Lib.SlTrimSet
import Derived.Lib.IndexMore
import Derived.Laws.Runes
import Derived.WalkMore
import Derived.Deep.QuietTactic
import Derived.BigQuiet
import Derived.Laws.Strings
set_option linter.unusedSimpArgs false
set_option linter.unusedVariables false
set_option linter.unusedSectionVars false
set_option maxRecDepth 1000000
set_option maxHeartbeats 8000000
namespace Go.Proofs.YtacggmlngekidaaGreatDoor
section
open Go.RowKit
namespace Ev
noncomputable def fnE (f : Fn) : Fn -> Bool :=
 Fn.rec (motive := fun _ => Fn -> Bool)
  (fun a g => Fn.rec (motive := fun _ => Bool) (fun b => Nat.beq a b) (fun _ => false) (fun _ _ => false) (fun _ _ _ _ => false) (fun _ => false) g) (fun _ _ => false)
  (fun t m g => Fn.rec (motive := fun _ => Bool) (fun _ => false) (fun _ => false) (fun t' m' => band (Nat.beq t t') (m == m')) (fun _ _ _ _ => false) (fun _ => false) g)
  (fun _ _ _ _ _ => false) (fun _ _ => false) f
theorem aMz {f g : Fn} (h : fnE f g = true) : f = g := by
 cases f <;> cases g <;> first | (cases h; done) | skip
 . rw [Nat.eq_of_beq_eq_true (show Nat.beq _ _ = true from h)]
 . obtain ⟨h1, h2⟩ := aQ (show band (Nat.beq _ _) (_ == _) = true from h)
   rw [Nat.eq_of_beq_eq_true h1, beq_iff_eq.1 h2]
def f1 {α : Type} (_ : α) : Bool := false
def f2 {α β : Type} (_ : α) (_ : β) : Bool := false
def f3 {α β γ : Type} (_ : α) (_ : β) (_ : γ) : Bool := false
def f4 {α β γ δ : Type} (_ : α) (_ : β) (_ : γ) (_ : δ) : Bool := false
noncomputable def eqV (v : Value) (y : AV) : Bool := AV.el (fun u => aCa v u) f2 f4 f4 f3 f2 f1 f1 f1 y
noncomputable def eqP (b o : Nat) (y : AV) : Bool := AV.el f1 (fun b' o' => band (Nat.beq b b') (Nat.beq o o')) f4 f4 f3 f2 f1 f1 f1 y
noncomputable def aPy (b o n c : Nat) (y : AV) : Bool := AV.el f1 f2 (fun b' o' n' c' => band (Nat.beq b b') (band (Nat.beq o o') (band (Nat.beq n n') (Nat.beq c c')))) f4 f3 f2 f1 f1 f1 y
noncomputable def aPz (b o n c : Nat) (y : AV) : Bool := AV.el f1 f2 f4 (fun b' o' n' c' => band (Nat.beq b b') (band (Nat.beq o o') (band (Nat.beq n n') (Nat.beq c c')))) f3 f2 f1 f1 f1 y
noncomputable def eqFn (f : Fn) (_ _ : List AV) (iha ihc : List AV -> Bool) (y : AV) : Bool := AV.el f1 f2 f4 f4 (fun f' a' c' => band (iha a') (band (ihc c') (fnE f f'))) f2 f1 f1 f1 y
noncomputable def eqI (t : TypeId) (_ : AV) (ih : AV -> Bool) (y : AV) : Bool := AV.el f1 f2 f4 f4 f3 (fun t' x' => band (Nat.beq t t') (ih x')) f1 f1 f1 y
noncomputable def aPA (_ : List AV) (ih : List AV -> Bool) (y : AV) : Bool := AV.el f1 f2 f4 f4 f3 f2 ih f1 f1 y
noncomputable def aPx (_ : List AV) (ih : List AV -> Bool) (y : AV) : Bool := AV.el f1 f2 f4 f4 f3 f2 f1 ih f1 y
noncomputable def eqMp (b : Nat) (y : AV) : Bool := AV.el f1 f2 f4 f4 f3 f2 f1 f1 (fun b' => Nat.beq b b') y
noncomputable def eqN (m : List AV) : Bool := isNil m
noncomputable def eqC (_ : AV) (_ : List AV) (ihx : AV -> Bool) (ihl : List AV -> Bool) (m : List AV) : Bool := List.rec (motive := fun _ => Bool) false (fun y m _ => band (ihx y) (ihl m)) m
noncomputable def eqS (x : AV) : AV -> Bool := AV.rec (motive_1 := fun _ => AV -> Bool) (motive_2 := fun _ => List AV -> Bool) eqV eqP aPy aPz eqFn eqI aPA aPx eqMp eqN eqC x
noncomputable def aAW (l : List AV) : List AV -> Bool := AV.rec_1 (motive_1 := fun _ => AV -> Bool) (motive_2 := fun _ => List AV -> Bool) eqV eqP aPy aPz eqFn eqI aPA aPx eqMp eqN eqC l
mutual
theorem yJ : (x y : AV) -> eqS x y = true -> x = y
 | .v a, y, h => by cases y <;> first | (cases h; done) | (rw [aHe (show aCa _ _ = true from h)])
 | .ptr b o, y, h => by
  cases y <;> first | (cases h; done) | skip
  obtain ⟨h1, h2⟩ := aQ (show band (Nat.beq _ _) (Nat.beq _ _) = true from h)
  rw [Nat.eq_of_beq_eq_true h1, Nat.eq_of_beq_eq_true h2]
 | .sl b o n c, y, h => by
  cases y <;> first | (cases h; done) | skip
  obtain ⟨h1, h2⟩ := aQ (show band (Nat.beq _ _) (band (Nat.beq _ _) (band (Nat.beq _ _) (Nat.beq _ _))) = true from h)
  obtain ⟨h3, h4⟩ := aQ h2
  obtain ⟨h5, h6⟩ := aQ h4
  rw [Nat.eq_of_beq_eq_true h1, Nat.eq_of_beq_eq_true h3, Nat.eq_of_beq_eq_true h5, Nat.eq_of_beq_eq_true h6]
 | .yV b o n c, y, h => by
  cases y <;> first | (cases h; done) | skip
  obtain ⟨h1, h2⟩ := aQ (show band (Nat.beq _ _) (band (Nat.beq _ _) (band (Nat.beq _ _) (Nat.beq _ _))) = true from h)
  obtain ⟨h3, h4⟩ := aQ h2
  obtain ⟨h5, h6⟩ := aQ h4
  rw [Nat.eq_of_beq_eq_true h1, Nat.eq_of_beq_eq_true h3, Nat.eq_of_beq_eq_true h5, Nat.eq_of_beq_eq_true h6]
 | .fn f a c, y, h => by
  cases y <;> first | (cases h; done) | skip
  obtain ⟨h1, h2⟩ := aQ (show band (aAW a _) (band (aAW c _) (fnE f _)) = true from h)
  obtain ⟨h3, h4⟩ := aQ h2
  rw [wL a _ h1, wL c _ h3, aMz h4]
 | .zO t x, y, h => by
  cases y <;> first | (cases h; done) | skip
  obtain ⟨h1, h2⟩ := aQ (show band (Nat.beq _ _) (eqS x _) = true from h)
  rw [Nat.eq_of_beq_eq_true h1, yJ x _ h2]
 | .agg l, y, h => by
  cases y <;> first | (cases h; done) | skip
  rw [wL l _ h]
 | .aP l, y, h => by
  cases y <;> first | (cases h; done) | skip
  rw [wL l _ h]
 | .mp b, y, h => by
  cases y <;> first | (cases h; done) | skip
  rw [Nat.eq_of_beq_eq_true (show Nat.beq _ _ = true from h)]
theorem wL : (l m : List AV) -> aAW l m = true -> l = m
 | [], m, h => by cases m; rfl; cases h
 | x :: l, m, h => by
  cases m with
  | nil => cases h
  | cons y m =>
   obtain ⟨h1, h2⟩ := aQ (show band (eqS x y) (aAW l m) = true from h)
   rw [yJ x y h1, wL l m h2]
end
mutual
def dS (l : Value) : AV -> Value
 | .v x => x
 | .fn f a c => tJ f (dSL l a) (dSL l c)
 | .zO t x => .iface t (dS l x)
 | .agg m => .agg (dSL l m).toArray
 | .aP m => .tuple (dSL l m).toArray
 | .mp _ => .iface 0 l
 | _ => .bool false
def dSL (l : Value) : List AV -> List Value
 | [] => []
 | x :: m => dS l x :: dSL l m
end
theorem aHo (l : Value) (m : List AV) : dSL l m = m.map (dS l) := by
 induction m with
 | nil => rfl
 | cons x m ih => simp only [dSL, ih, List.map_cons]
noncomputable def mX (g : Nat) (x : AV) : Bool :=
 AV.rec (motive_1 := fun _ => Bool) (motive_2 := fun _ => Bool) (fun _ => true) (fun _ _ => false) (fun _ _ _ _ => false) (fun _ _ _ _ => false) (fun _ _ _ a b => band a b) (fun _ _ x => x) (fun _ l => l) (fun _ l => l) (fun b => Nat.beq b g) true (fun _ _ x l => band x l) x
noncomputable def mP (g : Nat) (l : List AV) : Bool :=
 AV.rec_1 (motive_1 := fun _ => Bool) (motive_2 := fun _ => Bool) (fun _ => true) (fun _ _ => false) (fun _ _ _ _ => false) (fun _ _ _ _ => false) (fun _ _ _ a b => band a b) (fun _ _ x => x) (fun _ l => l) (fun _ l => l) (fun b => Nat.beq b g) true (fun _ _ x l => band x l) l
mutual
theorem nC {g : Nat} {ρ : Env} {l : Value} (hρ : ρ.cp g = ⟨0, 0, l⟩) : (x : AV) -> mX g x = true -> den ρ x = dS l x
 | .v _, _ => rfl
 | .ptr _ _, h => by cases h
 | .sl _ _ _ _, h => by cases h
 | .yV _ _ _ _, h => by cases h
 | .fn f a c, h => by
  obtain ⟨h1, h2⟩ := aQ (show band (mP g a) (mP g c) = true from h)
  simp only [den, dS, oG hρ a h1, oG hρ c h2]
 | .zO t x, h => by simp only [den, dS, nC hρ x h]
 | .agg m, h => by simp only [den, dS, oG hρ m h]
 | .aP m, h => by simp only [den, dS, oG hρ m h]
 | .mp b, h => by
  obtain rfl := Nat.eq_of_beq_eq_true (show Nat.beq b g = true from h)
  simp only [den, dS, hρ]
theorem oG {g : Nat} {ρ : Env} {l : Value} (hρ : ρ.cp g = ⟨0, 0, l⟩) : (m : List AV) -> mP g m = true -> iQ ρ m = dSL l m
 | [], _ => rfl
 | x :: m, h => by
  obtain ⟨h1, h2⟩ := aQ (show band (mX g x) (mP g m) = true from h)
  simp only [iQ, dSL, nC hρ x h1, oG hρ m h2]
end
mutual
theorem ZJ [Gh] {g n : Nat} (hg : Gd n g) : (x : AV) -> mX g x = true -> Sc n x
 | .v _, _ => trivial
 | .ptr _ _, h => by cases h
 | .sl _ _ _ _, h => by cases h
 | .yV _ _ _ _, h => by cases h
 | .fn f a c, h => by
  obtain ⟨h1, h2⟩ := aQ (show band (mP g a) (mP g c) = true from h)
  exact ⟨vY hg a h1, vY hg c h2⟩
 | .zO t x, h => ZJ hg x h
 | .agg m, h => vY hg m h
 | .aP m, h => vY hg m h
 | .mp b, h => by
  obtain rfl := Nat.eq_of_beq_eq_true (show Nat.beq b g = true from h)
  exact hg
theorem vY [Gh] {g n : Nat} (hg : Gd n g) : (m : List AV) -> mP g m = true -> iC n m
 | [], _ => trivial
 | x :: m, h => by
  obtain ⟨h1, h2⟩ := aQ (show band (mX g x) (mP g m) = true from h)
  exact ⟨ZJ hg x h1, vY hg m h2⟩
end
abbrev Fct := Nat × AV × AV × Bool
noncomputable def aMF (fs : List Fct) (c : Nat) (x y : AV) : Option Bool :=
 List.rec (motive := fun _ => Option Bool) none (fun e _ ih => Bool.rec (motive := fun _ => Option Bool) ih (some e.2.2.2) (band (Nat.beq e.1 c) (band (eqS e.2.1 x) (eqS e.2.2.1 y)))) fs
theorem aG9 {c : Nat} {x y : AV} {b : Bool} : ∀ {fs : List Fct}, aMF fs c x y = some b -> (c, x, y, b) ∈ fs := by
 intro fs
 induction fs with
 | nil => intro h; cases h
 | cons e fs ih =>
  intro h
  have h : Bool.rec (motive := fun _ => Option Bool) (aMF fs c x y) (some e.2.2.2) (band (Nat.beq e.1 c) (band (eqS e.2.1 x) (eqS e.2.2.1 y))) = some b := h
  cases hb : band (Nat.beq e.1 c) (band (eqS e.2.1 x) (eqS e.2.2.1 y)) with
  | false => rw [hb] at h; exact List.mem_cons_of_mem _ (ih h)
  | true =>
   rw [hb] at h
   obtain ⟨h1, h2⟩ := aQ hb
   obtain ⟨h3, h4⟩ := aQ h2
   have h : e.2.2.2 = b := Option.some.inj h
   have : (c, x, y, b) = e := by rw [<- Nat.eq_of_beq_eq_true h1, <- yJ _ _ h3, <- yJ _ _ h4, <- h]
   rw [this]; exact List.mem_cons_self
abbrev EM := FuncId × List AV × AV
noncomputable def aLF (os : List EM) (f : FuncId) (xs : List AV) : Option AV :=
 List.rec (motive := fun _ => Option AV) none (fun e _ ih => Bool.rec (motive := fun _ => Option AV) ih (some e.2.2) (band (Nat.beq e.1 f) (aAW e.2.1 xs))) os
theorem aFz {f : FuncId} {xs : List AV} {v : AV} : ∀ {os : List EM}, aLF os f xs = some v -> (f, xs, v) ∈ os := by
 intro os
 induction os with
 | nil => intro h; cases h
 | cons e os ih =>
  intro h
  have h : Bool.rec (motive := fun _ => Option AV) (aLF os f xs) (some e.2.2) (band (Nat.beq e.1 f) (aAW e.2.1 xs)) = some v := h
  cases hb : band (Nat.beq e.1 f) (aAW e.2.1 xs) with
  | false => rw [hb] at h; exact List.mem_cons_of_mem _ (ih h)
  | true =>
   rw [hb] at h
   obtain ⟨h1, h2⟩ := aQ hb
   have h : e.2.2 = v := Option.some.inj h
   have : (f, xs, v) = e := by rw [<- Nat.eq_of_beq_eq_true h1, <- wL _ _ h2, <- h]
   rw [this]; exact List.mem_cons_self
abbrev Y0 := TypeId × AV × AV × AV
noncomputable def aLI (ps : List Y0) (t : TypeId) (x y : AV) : Option AV :=
 List.rec (motive := fun _ => Option AV) none (fun e _ ih => Bool.rec (motive := fun _ => Option AV) ih (some e.2.2.2) (band (Nat.beq e.1 t) (band (eqS e.2.1 x) (eqS e.2.2.1 y)))) ps
theorem aFK {t : TypeId} {x y z : AV} : ∀ {ps : List Y0}, aLI ps t x y = some z -> (t, x, y, z) ∈ ps := by
 intro ps
 induction ps with
 | nil => intro h; cases h
 | cons e ps ih =>
  intro h
  have h : Bool.rec (motive := fun _ => Option AV) (aLI ps t x y) (some e.2.2.2) (band (Nat.beq e.1 t) (band (eqS e.2.1 x) (eqS e.2.2.1 y))) = some z := h
  cases hb : band (Nat.beq e.1 t) (band (eqS e.2.1 x) (eqS e.2.2.1 y)) with
  | false => rw [hb] at h; exact List.mem_cons_of_mem _ (ih h)
  | true =>
   rw [hb] at h
   obtain ⟨h1, h2⟩ := aQ hb
   obtain ⟨h3, h4⟩ := aQ h2
   have h : e.2.2.2 = z := Option.some.inj h
   have : (t, x, y, z) = e := by rw [<- Nat.eq_of_beq_eq_true h1, <- yJ _ _ h3, <- yJ _ _ h4, <- h]
   rw [this]; exact List.mem_cons_self
noncomputable def tbL (B : Tab) (l : Value) (fs : List Fct) (ps : List Y0) (os : List EM) : Tab :=
 ⟨B.p, ⟨B.g.n, fun _ => ⟨0, 0, l⟩⟩, B.l, B.ty, B.fn, aLF os, B.idn, B.mnz, B.met, aMF fs, aLI ps⟩
def aK2 (g : Nat) (l : Value) (e : Fct) : Prop := mX g e.2.1 = true /\ mX g e.2.2.1 = true /\ pG e.1 (dS l e.2.1) (dS l e.2.2.1) = e.2.2.2
def TL (P : Program) (l : Value) (e : Y0) : Prop := ∀ b, dS l e.2.2.2 = .bool b -> ∀ ox oy w,
 (do eqGuard .eql e.1 ox oy (dS l e.2.1) (dS l e.2.2.1); binOp .eql e.1 (dS l e.2.1) (dS l e.2.2.1)).run P w = .ok (.bool b) w /\
 (do eqGuard .neq e.1 ox oy (dS l e.2.1) (dS l e.2.2.1); binOp .neq e.1 (dS l e.2.1) (dS l e.2.2.1)).run P w = .ok (.bool (!b)) w
noncomputable def aIF (g : Nat) (e : Y0) : Bool := band (mX g e.2.1) (band (mX g e.2.2.1) (mX g e.2.2.2))
def DN (P : Program) (w0 : World) (l : Value) (e : EM) : Prop := ∀ w, Below w0.heap.size w0 w ->
 Calls P e.1 (e.2.1.map (dS l)).toArray w fun r w' => r = .returned (dS l e.2.2) /\ Below w.heap.size w w'
noncomputable def VZ (B : Tab) (g : Nat) (e : EM) : Bool := band (mP g e.2.1) (band (mX g e.2.2) (Option.rec (motive := fun _ => Bool) false (fun _ => true) (B.fn.get e.1)))
theorem aLj {B : Tab} {w0 : World} {l : Value} {fs : List Fct} {ps : List Y0} {os : List EM} {g : Nat} (hB : jK B w0) (hg : Nat.ble (g + 1) B.g.n = true)
 (hf : ∀ e ∈ fs, aK2 g l e) (hp : ∀ e ∈ ps, aIF g e = true /\ TL B.p l e) (ho : ∀ e ∈ os, VZ B g e = true /\ DN B.p w0 l e) : jK (tbL B l fs ps os) w0 where
 ty := hB.ty
 fn := hB.fn
 orc := fun f xs v h => by
  obtain ⟨h1, h2⟩ := ho _ (aFz h)
  obtain ⟨h3, h4⟩ := aQ h1
  obtain ⟨h5, h6⟩ := aQ h4
  have hg' : g < B.g.n := by have := Nat.le_of_ble_eq_true hg; omega
  refine ⟨fun _ n hn => ZJ (hn g hg') v h5, ?_, fun ρ w hρ hw => ?_⟩
  . cases hfn : B.fn.get f with
    | none => rw [show B.fn.get (f, xs, v).1 = none from hfn] at h6; cases h6
    | some fn => exact (hB.fn f fn hfn).2
  . have JZ : ρ.cp g = ⟨0, 0, l⟩ := hρ g hg'
    have := h2 w hw
    rw [<- dR, oG JZ xs h3, aHo, nC JZ v h5]
    exact this
 BD := {
  BD := fun c x y b h ρ hρ => by
   have hg' : g < B.g.n := by have := Nat.le_of_ble_eq_true hg; omega
   have JZ : ρ.cp g = ⟨0, 0, l⟩ := hρ g hg'
   obtain ⟨h1, h2, h3⟩ := hf _ (aG9 h)
   rw [nC JZ x h1, nC JZ y h2]
   exact h3
  oop := fun t x y z h ρ hρ b hz ox oy w => by
   have hg' : g < B.g.n := by have := Nat.le_of_ble_eq_true hg; omega
   have JZ : ρ.cp g = ⟨0, 0, l⟩ := hρ g hg'
   obtain ⟨h1, h2⟩ := hp _ (aFK h)
   obtain ⟨h3, h4⟩ := aQ h1
   obtain ⟨h5, h6⟩ := aQ h4
   rw [nC JZ z h6] at hz
   rw [nC JZ x h3, nC JZ y h5]
   exact h2 b hz ox oy w }
 mixed := hB.mixed
 idn := hB.idn
 mnz := hB.mnz
 met := hB.met
inductive DT where
 | leaf (v : AV)
 | no
 | node (c : Nat) (x y : AV) (t f : DT)
def DT.den (l : Value) : DT -> Value
 | .leaf v => dS l v
 | .no => .bool false
 | .node c x y t f => cond (pG c (dS l x) (dS l y)) (t.den l) (f.den l)
def DT.live (l : Value) : DT -> Prop
 | .leaf _ => True
 | .no => False
 | .node c x y t f => (pG c (dS l x) (dS l y) = true -> t.live l) /\ (pG c (dS l x) (dS l y) = false -> f.live l)
noncomputable def aE3 (g : Nat) (v : AV) (x : Option (AV × Hs)) : Bool := Option.rec (motive := fun _ => Bool) false (fun p => band (eqS p.1 v) (mX g v)) x
noncomputable def DT.ok (B : Tab) (l : Value) (ps : List Y0) (os : List EM) (h0 : Tr HO) (d g : Nat) (f : FuncId) (xs : List AV) (T : DT) : List Fct -> Bool :=
 DT.rec (motive := fun _ => List Fct -> Bool) (fun v fs => aE3 g v (AX (tbL B l fs ps os) d B.l [] f xs ⟨h0, B.l⟩)) (fun _ => true)
  (fun c x y _ _ iht ihf fs => band (band (mX g x) (mX g y)) (band (iht ((c, x, y, true) :: fs)) (ihf ((c, x, y, false) :: fs)))) T
def eF (n l : Nat) (w0 : World) (h0 : Tr HO) : Prop := ∀ lv w, Below w0.heap.size w0 w -> ∃ ρ, @aU G0 w0 ρ ⟨⟨n, lv⟩, l, l, []⟩ ⟨h0, l⟩ w
theorem aHg {B : Tab} {w0 w : World} {l : Value} {ps : List Y0} {os : List EM} {g d : Nat} {h0 : Tr HO} {f : FuncId} {xs : List AV} (hB : jK B w0) (hst : eF B.g.n B.l w0 h0) (hg : Nat.ble (g + 1) B.g.n = true)
 (hp : ∀ e ∈ ps, aIF g e = true /\ TL B.p l e) (ho : ∀ e ∈ os, VZ B g e = true /\ DN B.p w0 l e) (hx : mP g xs = true) (hy : Nat.ble yF f = false) (hw : Below w0.heap.size w0 w) (T : DT) :
 ∀ fs, (∀ e ∈ fs, aK2 g l e) -> T.ok B l ps os h0 d g f xs fs = true -> T.live l -> Calls B.p f (xs.map (dS l)).toArray w fun e w' => e = .returned (T.den l) /\ Below w.heap.size w w' := by
 induction T with
 | leaf v =>
  intro fs hf h _
  have h : aE3 g v (AX (tbL B l fs ps os) d B.l [] f xs ⟨h0, B.l⟩) = true := h
  cases hr : AX (tbL B l fs ps os) d B.l [] f xs ⟨h0, B.l⟩ with
  | none => rw [hr] at h; cases h
  | some p =>
   rw [hr] at h
   obtain ⟨h1, h2⟩ := aQ (show band (eqS p.1 v) (mX g v) = true from h)
   have h1 := yJ _ _ h1
   obtain ⟨v', s'⟩ := p
   have h1 : v' = v := h1
   subst h1
   obtain ⟨ρ, hs⟩ := hst (fun _ => ⟨0, 0, l⟩) w hw
   have hg' : g < B.g.n := by have := Nat.le_of_ble_eq_true hg; omega
   have hρ : ρ.cp g = ⟨0, 0, l⟩ := (@aU.gl G0 _ _ _ _ _ hs g hg').2.2
   have hgd : @Gd G0 B.l g := ⟨Nat.lt_of_lt_of_le hg' (@aU.gn G0 _ _ _ _ _ hs), fun h => h⟩
   have hT := aLj hB hg hf hp ho
   have := (aHx hT d G0 _ _ _ _ _ _ _ hr ρ w hs (@vY G0 _ _ hgd xs hx)).1 hy
   rw [<- dR, oG hρ xs hx, aHo] at this
   refine this.mono ?_
   rintro e w' ⟨ρ', rfl, h3, _⟩
   have fr := @Stp.fr G0 _ _ _ _ _ _ _ _ h3
   have JZ : ρ'.cp g = ⟨0, 0, l⟩ := (@aU.gl G0 _ _ _ _ _ (@Stp.sat G0 _ _ _ _ _ _ _ _ h3) g hg').2.2
   exact ⟨by rw [nC JZ v' h2]; rfl, fr.os, fr.tape, fr.output, fr.size, fun r hr => fr.block r hr (fun b o h3 h4 => absurd h3 (Nat.not_le.2 (@aU.lt G0 _ _ _ _ _ hs b o h4)))⟩
 | no => intro fs _ _ h; cases h
 | node c x y t u iht ihu =>
  intro fs hf h hl
  obtain ⟨h1, h2⟩ := aQ (show band (band (mX g x) (mX g y)) (band (t.ok B l ps os h0 d g f xs ((c, x, y, true) :: fs)) (u.ok B l ps os h0 d g f xs ((c, x, y, false) :: fs))) = true from h)
  obtain ⟨h3, h4⟩ := aQ h1
  obtain ⟨h5, h6⟩ := aQ h2
  show Calls B.p f _ w fun e w' => e = .returned (cond (pG c (dS l x) (dS l y)) (t.den l) (u.den l)) /\ _
  cases hb : pG c (dS l x) (dS l y) with
  | true =>
   exact iht _ (fun e he => by
    rcases List.mem_cons.1 he with rfl | he
    . exact ⟨h3, h4, hb⟩
    . exact hf e he) h5 (hl.1 hb)
  | false =>
   exact ihu _ (fun e he => by
    rcases List.mem_cons.1 he with rfl | he
    . exact ⟨h3, h4, hb⟩
    . exact hf e he) h6 (hl.2 hb)
theorem UU {B : Tab} {w0 w : World} {l : Value} {ps : List Y0} {os : List EM} {g d : Nat} {h0 : Tr HO} {f : FuncId} {xs : List AV} (T : DT) (hB : jK B w0) (hst : eF B.g.n B.l w0 h0) (hg : Nat.ble (g + 1) B.g.n = true)
 (hp : ∀ e ∈ ps, aIF g e = true /\ TL B.p l e) (ho : ∀ e ∈ os, VZ B g e = true /\ DN B.p w0 l e) (hx : mP g xs = true) (hy : Nat.ble yF f = false) (hw : Below w0.heap.size w0 w)
 (h : T.ok B l ps os h0 d g f xs [] = true) (hl : T.live l) : Calls B.p f (xs.map (dS l)).toArray w fun e w' => e = .returned (T.den l) /\ Below w.heap.size w w' :=
 aHg hB hst hg hp ho hx hy hw T [] (fun e he => by cases he) h hl
theorem aLp {P : Program} {L : List (String × DataW Unit)} {G n : Nat} {bs : List (Nat × List AV)} {w0 : World} (hl : laidMet P L w0) {fs : List (Nat × List Value)} (hf : PE G w0 fs) (h : layVars P G L G = some (bs, n)) {h0 : Tr HO} (h0e : CO (bs ++ fixed fs) = h0) : eF G n w0 h0 := fun lv w hw => by
 obtain ⟨ρ, hs⟩ := ZN lv hl hf hw h
 rw [h0e] at hs
 exact ⟨ρ, hs⟩
def DT.all : DT -> Bool
 | .leaf _ => true
 | .no => false
 | .node _ _ _ t f => t.all && f.all
theorem dF {l : Value} : ∀ {T : DT}, T.all = true -> T.live l := by
 intro T
 induction T with
 | leaf v => intro _; trivial
 | no => intro h; cases h
 | node c x y t f iht ihf =>
  intro h
  rw [DT.all, Bool.and_eq_true] at h
  exact ⟨fun _ => iht h.1, fun _ => ihf h.2⟩
theorem BU {P : Program} {l : Value} {e : Y0} (hg1 : ∀ ox oy w, (eqGuard .eql e.1 ox oy (dS l e.2.1) (dS l e.2.2.1)).run P w = .ok () w) (hg2 : ∀ ox oy w, (eqGuard .neq e.1 ox oy (dS l e.2.1) (dS l e.2.2.1)).run P w = .ok () w) (Z : Bool) (hZ : dS l e.2.2.2 = .bool Z)
 (h1 : ∀ w, (binOp .eql e.1 (dS l e.2.1) (dS l e.2.2.1)).run P w = .ok (.bool Z) w) (h2 : ∀ w, (binOp .neq e.1 (dS l e.2.1) (dS l e.2.2.1)).run P w = .ok (.bool (!Z)) w) : TL P l e := by
 intro b hb ox oy w
 rw [hZ] at hb
 cases hb
 exact ⟨by rw [Sem.run_bind, hg1]; exact h1 w, by rw [Sem.run_bind, hg2]; exact h2 w⟩
def aCt (P : Program) (w0 : World) (f : FuncId) (args : Array Value) (v : Value) : Prop := ∀ w, Below w0.heap.size w0 w -> Calls P f args w fun r w' => r = .returned v /\ Below w.heap.size w w'
def EqV (P : Program) (t : TypeId) (a b : Value) (z : Bool) : Prop := (∀ w, (binOp .eql t a b).run P w = .ok (.bool z) w) /\ (∀ w, (binOp .neq t a b).run P w = .ok (.bool (!z)) w)
def GdV (P : Program) (t : TypeId) (a b : Value) : Prop := ∀ ox oy w, (eqGuard .eql t ox oy a b).run P w = .ok () w /\ (eqGuard .neq t ox oy a b).run P w = .ok () w
inductive OpS (P : Program) : List (TypeId × Value × Value × Value) -> Prop
 | nil : OpS P []
 | cons {t : TypeId} {a b : Value} {z : Bool} {es : List (TypeId × Value × Value × Value)} (h : EqV P t a b z) (g : GdV P t a b) (tl : OpS P es) : OpS P ((t, a, b, .bool z) :: es)
inductive OrS (P : Program) (w0 : World) : List (FuncId × Array Value × Value) -> Prop
 | nil : OrS P w0 []
 | cons {f : FuncId} {args : Array Value} {v : Value} {es : List (FuncId × Array Value × Value)} (h : aCt P w0 f args v) (t : OrS P w0 es) : OrS P w0 ((f, args, v) :: es)
theorem OpS.all {P : Program} {L : List (TypeId × Value × Value × Value)} (h : OpS P L) : ∀ x ∈ L, ∃ z, x.2.2.2 = .bool z /\ EqV P x.1 x.2.1 x.2.2.1 z /\ GdV P x.1 x.2.1 x.2.2.1 := by
 induction h with
 | nil => intro e he; cases he
 | cons h g _ ih => intro e he; exact (List.mem_cons.1 he).elim (fun q => by subst q; exact ⟨_, rfl, h, g⟩) (ih e)
theorem OrS.all {P : Program} {w0 : World} {L : List (FuncId × Array Value × Value)} (h : OrS P w0 L) : ∀ x ∈ L, aCt P w0 x.1 x.2.1 x.2.2 := by
 induction h with
 | nil => intro e he; cases he
 | cons h _ ih => intro e he; exact (List.mem_cons.1 he).elim (fun q => by subst q; exact h) (ih e)
noncomputable def seB (B : Tab) (ps : List Y0) (os : List EM) (g : Nat) (f : FuncId) (xs : List AV) : Bool := band (Nat.ble (g + 1) B.g.n) (band (ps.all (aIF g)) (band (os.all (VZ B g)) (band (mP g xs) (kM (Nat.ble yF f)))))
theorem bH {B : Tab} {w0 : World} {l : Value} {ps : List Y0} {os : List EM} {g d : Nat} {h0 : Tr HO} {f : FuncId} {xs : List AV} {T : DT} {args : Array Value} {v : Value} {LP : List (TypeId × Value × Value × Value)} {LO : List (FuncId × Array Value × Value)}
 (h : T.ok B l ps os h0 d g f xs [] = true) (hB : jK B w0) (hst : eF B.g.n B.l w0 h0) (hp : OpS B.p LP) (ho : OrS B.p w0 LO) (hl : T.live l)
 (hc : (seB B ps os g f xs, ps.map (fun e => (e.1, dS l e.2.1, dS l e.2.2.1, dS l e.2.2.2)), os.map (fun e => (e.1, (e.2.1.map (dS l)).toArray, dS l e.2.2)), T.den l, (xs.map (dS l)).toArray) = (true, LP, LO, v, args)) : aCt B.p w0 f args v := by
 simp only [Prod.mk.injEq] at hc
 obtain ⟨hc, e3, e4, e1, e2⟩ := hc
 obtain ⟨c1, c⟩ := aQ hc
 obtain ⟨c2, c⟩ := aQ c
 obtain ⟨c3, c⟩ := aQ c
 obtain ⟨c4, c5⟩ := aQ c
 subst e1 e2 e3 e4
 refine fun w hw => UU T hB hst c1 (fun e he => ⟨List.all_eq_true.1 c2 e he, ?_⟩) (fun e he => ⟨List.all_eq_true.1 c3 e he, ho.all _ (List.mem_map_of_mem he)⟩) c4 (by cases hb : Nat.ble yF f with | false => rfl | true => rw [hb] at c5; cases c5) hw h hl
 obtain ⟨z, hz, q, g⟩ := hp.all _ (List.mem_map_of_mem he)
 exact BU (fun ox oy w => (g ox oy w).1) (fun ox oy w => (g ox oy w).2) z hz q.1 q.2
noncomputable def QW (B : Tab) (l : Value) (h0 : Tr HO) (g d : Nat) (os : List EM) (e : EM) : Bool :=
 band (band (VZ B g e) (kM (Nat.ble yF e.1))) (aE3 g e.2.2 (AX (tbL B l [] [] os) d B.l [] e.1 e.2.1 ⟨h0, B.l⟩))
theorem uY {B : Tab} {w0 : World} {l : Value} {g d : Nat} {h0 : Tr HO} {os new : List EM} (hB : jK B w0) (hst : eF B.g.n B.l w0 h0) (hg : Nat.ble (g + 1) B.g.n = true) (ho : ∀ e ∈ os, VZ B g e = true /\ DN B.p w0 l e)
 (h : new.all (QW B l h0 g d os) = true) : ∀ e ∈ new ++ os, VZ B g e = true /\ DN B.p w0 l e := fun e he => by
 rcases List.mem_append.1 he with he | he
 . obtain ⟨h1, h2⟩ := aQ (List.all_eq_true.1 h e he)
   obtain ⟨h3, h4⟩ := aQ h1
   refine ⟨h3, fun w hw => ?_⟩
   exact UU (ps := []) (.leaf e.2.2) hB hst hg (fun e he => by cases he) ho (aQ h3).1 (by cases hb : Nat.ble yF e.1 with | false => rfl | true => rw [hb] at h4; cases h4) hw h2 trivial
 . exact ho e he
theorem iI {T : DT} {l : Value} {p : Prop} (e : T.live l = p) (h : p) : T.live l := e ▸ h
def ltr (g : Nat) (p : Value) (i : Nat) : AV := .fn (.methodOf 1 "") [.v p, .mp g, .v (.int .i64 i)] []
end Ev
end
section
namespace Ev
def k9 : List AV := [0, 1, 28, 2, 29, 14, 24, 3, 30, 22, 20, 15, 25, 17, 4, 8, 31, 27, 13, 23, 21, 19, 16, 7, 26, 12, 18, 6, 11, 5, 10, 9].map fun n => .v (.int .u8 n)
def k10 : List AV := [0, 1, 56, 2, 57, 49, 28, 3, 61, 58, 42, 50, 38, 29, 17, 4, 62, 47, 59, 36, 45, 43, 51, 22, 53, 39, 33, 30, 24, 18, 12, 5, 63, 55, 48, 27, 60, 41, 37, 16, 46, 35, 44, 21, 52, 32, 23, 11, 54, 26, 40, 15, 34, 20, 31, 10, 25, 14, 19, 9, 13, 8, 7, 6].map fun n => .v (.int .u8 n)
def k8 : List AV := [1, 10, 100, 1000, 10000, 100000, 1000000, 10000000, 100000000, 1000000000, 10000000000, 100000000000, 1000000000000, 10000000000000, 100000000000000, 1000000000000000, 10000000000000000, 100000000000000000, 1000000000000000000, 10000000000000000000].map fun n => .v (.int .u64 n)
def k7 : List AV := [128, 191, 160, 191, 128, 159, 144, 191, 128, 143, 0, 0, 0, 0, 0, 0, 0, 0, 0, 0, 0, 0, 0, 0, 0, 0, 0, 0, 0, 0, 0, 0].map fun n => .v (.int .u8 n)
def k4 : List AV := [(.mp 12)]
def k3 : List AV := [(.mp 13)]
def k5 : List AV := [(.sl 14 0 3 3)]
def k14 : List AV := [(.v (.int .i64 (4))), (.v (.int .i64 (1))), (.v (.int .i64 (100))), (.v (.int .i64 (-1))), (.v (.int .i64 (400))), (.v (.int .i64 (1)))]
def k2 : List AV := [31, 28, 31, 30, 31, 30, 31, 31, 30, 31, 30, 31].map fun n => .v (.int .i64 n)
def k1 : List AV := [3, 3, 6, 3, 9, 3, 12, 3, 3, 3, 6, 3, 9, 3, 12, 3, 9, 3, 12, 3, 3, 3, 6, 3, 1, 3, 4, 3, 7, 3, 10, 3, 1, 4, 5, 4, 9, 4, 1, 6, 7, 6].map fun n => .v (.int .i64 n)
def k6 : List AV := [240, 240, 240, 240, 240, 240, 240, 240, 240, 240, 240, 240, 240, 240, 240, 240, 240, 240, 240, 240, 240, 240, 240, 240, 240, 240, 240, 240, 240, 240, 240, 240, 240, 240, 240, 240, 240, 240, 240, 240, 240, 240, 240, 240, 240, 240, 240, 240, 240, 240, 240, 240, 240, 240, 240, 240, 240, 240, 240, 240, 240, 240, 240, 240, 240, 240, 240, 240, 240, 240, 240, 240, 240, 240, 240, 240, 240, 240, 240, 240, 240, 240, 240, 240, 240, 240, 240, 240, 240, 240, 240, 240, 240, 240, 240, 240, 240, 240, 240, 240, 240, 240, 240, 240, 240, 240, 240, 240, 240, 240, 240, 240, 240, 240, 240, 240, 240, 240, 240, 240, 240, 240, 240, 240, 240, 240, 240, 240, 241, 241, 241, 241, 241, 241, 241, 241, 241, 241, 241, 241, 241, 241, 241, 241, 241, 241, 241, 241, 241, 241, 241, 241, 241, 241, 241, 241, 241, 241, 241, 241, 241, 241, 241, 241, 241, 241, 241, 241, 241, 241, 241, 241, 241, 241, 241, 241, 241, 241, 241, 241, 241, 241, 241, 241, 241, 241, 241, 241, 241, 241, 241, 241, 241, 241, 2, 2, 2, 2, 2, 2, 2, 2, 2, 2, 2, 2, 2, 2, 2, 2, 2, 2, 2, 2, 2, 2, 2, 2, 2, 2, 2, 2, 2, 2, 19, 3, 3, 3, 3, 3, 3, 3, 3, 3, 3, 3, 3, 35, 3, 3, 52, 4, 4, 4, 68, 241, 241, 241, 241, 241, 241, 241, 241, 241, 241, 241].map fun n => .v (.int .u8 n)
def hp : Tr HO := (.node none (.node (some (.ro k1)) (.node (some (.ro k3)) (.node (some (.ro k7)) .nil .nil) .nil) (.node (some (.ro k5)) (.node (some (.ro k9)) .nil .nil) .nil)) (.node (some (.ro k2)) (.node (some (.ro k4)) (.node (some (.ro k8)) .nil .nil) .nil) (.node (some (.ro k6)) (.node (some (.ro k10)) .nil .nil) (.node (some (.ro k14)) .nil .nil))))
def bs0 : List (Nat × List AV) := [(9, k9), (10, k10), (8, k8), (7, k7), (4, k4), (3, k3), (5, k5), (14, k14), (2, k2), (1, k1), (6, k6)]
noncomputable def fs0 : List (Nat × List Value) := []
theorem hp_eq : CO (bs0 ++ fixed fs0) = hp := by kernel_rfl
theorem aL5 : layVars Tryz.prog 12 (Rows.seeksErrorsRow.laid.filter fun x => x.2.handleName?.isNone) 12 = some (bs0, 15) := by kernel_rfl
theorem aMA {w0 : World} (hl : laidMetH Tryz.prog Rows.seeksErrorsRow.laid w0) : PE 12 w0 fs0 := PE.nil
def aOW : List (TypeId × String × FuncId) := [(128, "circa/seeks.at", 256), (128, "circa/seeks.first", 257), (128, "circa/seeks.from", 258), (128, "circa/seeks.last", 259), (128, "circa/seeks.upto", 260), (130, "circa/seeks.at", 264), (130, "circa/seeks.first", 265), (130, "circa/seeks.from", 266), (130, "circa/seeks.last", 267), (130, "circa/seeks.upto", 268), (132, "circa/seeks.at", 275), (132, "circa/seeks.first", 276), (132, "circa/seeks.from", 277), (132, "circa/seeks.last", 278), (132, "circa/seeks.upto", 280)]
theorem aI7 : aOW.all (fun e => aJa Tryz.prog e.1 e.2.1 e.2.2) = true := by kernel_rfl
noncomputable def gZ : Tab := ⟨Tryz.prog, ⟨12, fun _ => ⟨0, 0, .nilIface⟩⟩, 15, tys, fns, fun _ _ => none, fun _ => false, fun _ => none, aI9 aOW, fun _ _ _ => none, fun _ _ _ => none⟩
abbrev LG : Nat := 11
abbrev QY (i : Nat) : AV := ltr LG (.int .i8 0) i
abbrev oU (i : Nat) : AV := ltr LG (.int .i64 0) i
abbrev uZ (i : Nat) : AV := ltr LG (.int .u8 0) i
abbrev l_b (i : Nat) : AV := ltr LG (.bool false) i
abbrev Y5 (i : Nat) : AV := ltr LG (.string ⟨#[]⟩) i
abbrev pU (i : Nat) : AV := ltr LG (.slice none 0 0) i
theorem aMb : ∀ f, gZ.idn f = true -> ∀ x w, (callFunc f #[x]).run gZ.p w = .ok (.value x) w := fun f h => by cases h
theorem aL0 : ∀ f e, gZ.mnz f = some e -> ∀ (n : Nat) w, n <= 140737488355328 -> ∃ cs : Array Value, (callFunc f #[.int .i64 n]).run gZ.p w = .ok (.value (.slice (some ⟨w.heap.size, 0, none⟩) n cs.size)) (w.drew.drew.alloc (.cells cs e)) /\ n <= cs.size := fun f e h => by cases h
theorem bJ (w : World) : jK gZ w := aLk aLh aMx Tryz.pinned.checked.mixed (fun _ _ _ h => by cases h) ⟨fun _ _ _ _ h => (by cases h), fun _ _ _ _ h => (by cases h)⟩ aMb aL0 (aI8 aI7)
theorem BI {w0 : World} (hl : laidMetH Tryz.prog Rows.seeksErrorsRow.laid w0) : eF gZ.g.n gZ.l w0 hp := aLp (MB hl) (aMA hl) aL5 hp_eq
end Ev
end
end Go.Proofs.YtacggmlngekidaaGreatDoor
namespace Go.Proofs
open Go.Shelf
open Go.RowKit in
def Tryz.lays160_ren : Go.Shelf.Ren := ⟨fun | 160 => 153 | 232 => 187 | 231 => 186 | 227 => 188 | 234 => 190 | 233 => 189 | 236 => 192 | 235 => 191 | 228 => 212 | 271 => 214 | 151 => 185 | 197 => 213 | 120 => 228 | 152 => 211 | 260 => 227 | 137 => 225 | 119 => 226 | 224 => 166 | 225 => 165 | 217 => 164 | 266 => 202 | n => n, fun | 9 => 9 | 4 => 4 | 3 => 3 | 5 => 5 | 117 => 219 | 116 => 218 | 0 => 0 | 124 => 222 | 21 => 21 | 105 => 245 | 46 => 201 | 119 => 267 | 139 => 270 | 138 => 269 | n => n, fun | 3 => 6 | 4 => 7 | n => n⟩
theorem Tryz.lays160 : Go.Proofs.Lays.n160 Tryz.prog Tryz.lays160_ren := {
 mixed := by kernel_rfl
 f119 := Tryz.func226.trans (congrArg some (by kernel_rfl))
 f120 := Tryz.func228.trans (congrArg some (by kernel_rfl))
 f137 := Tryz.func225.trans (congrArg some (by kernel_rfl))
 f151 := Tryz.func185.trans (congrArg some (by kernel_rfl))
 f152 := Tryz.func211.trans (congrArg some (by kernel_rfl))
 f160 := Tryz.func153.trans (congrArg some (by kernel_rfl))
 f197 := Tryz.func213.trans (congrArg some (by kernel_rfl))
 f217 := Tryz.func164.trans (congrArg some (by kernel_rfl))
 f224 := Tryz.func166.trans (congrArg some (by kernel_rfl))
 f225 := Tryz.func165.trans (congrArg some (by kernel_rfl))
 f227 := Tryz.func188.trans (congrArg some (by kernel_rfl))
 f228 := Tryz.func212.trans (congrArg some (by kernel_rfl))
 f231 := Tryz.func186.trans (congrArg some (by kernel_rfl))
 f232 := Tryz.func187.trans (congrArg some (by kernel_rfl))
 f233 := Tryz.func189.trans (congrArg some (by kernel_rfl))
 f234 := Tryz.func190.trans (congrArg some (by kernel_rfl))
 f235 := Tryz.func191.trans (congrArg some (by kernel_rfl))
 f236 := Tryz.func192.trans (congrArg some (by kernel_rfl))
 f260 := Tryz.func227.trans (congrArg some (by kernel_rfl))
 f266 := Tryz.func202.trans (congrArg some (by kernel_rfl))
 f271 := Tryz.func214.trans (congrArg some (by kernel_rfl))
 t0 := Tryz.underlying0
 a0 := Tryz.isAgg0
 z0 := Tryz.sizeOf0
 v0 := Tryz.zeroValue0
 t3 := Tryz.underlying3
 a3 := Tryz.isAgg3
 z3 := Tryz.sizeOf3
 v3 := Tryz.zeroValue3
 t4 := Tryz.underlying4
 a4 := Tryz.isAgg4
 z4 := Tryz.sizeOf4
 v4 := Tryz.zeroValue4
 t5 := Tryz.underlying5
 a5 := Tryz.isAgg5
 z5 := Tryz.sizeOf5
 v5 := Tryz.zeroValue5
 t9 := Tryz.underlying9
 a9 := Tryz.isAgg9
 z9 := Tryz.sizeOf9
 v9 := Tryz.zeroValue9
 t21 := Tryz.underlying21
 a21 := Tryz.isAgg21
 z21 := Tryz.sizeOf21
 v21 := Tryz.zeroValue21
 t46 := Tryz.underlying201
 a46 := Tryz.isAgg201
 z46 := Tryz.sizeOf201
 v46 := Tryz.zeroValue201
 t105 := Tryz.underlying245
 a105 := Tryz.isAgg245
 z105 := Tryz.sizeOf245
 v105 := Tryz.zeroValue245
 t116 := Tryz.underlying218
 a116 := Tryz.isAgg218
 z116 := Tryz.sizeOf218
 t117 := Tryz.underlying219
 a117 := Tryz.isAgg219
 z117 := Tryz.sizeOf219
 v117 := Tryz.zeroValue219
 t119 := Tryz.underlying267
 a119 := Tryz.isAgg267
 z119 := Tryz.sizeOf267
 t124 := Tryz.underlying222
 a124 := Tryz.isAgg222
 z124 := Tryz.sizeOf222
 v124 := Tryz.zeroValue222
 t138 := Tryz.underlying269
 a138 := Tryz.isAgg269
 z138 := Tryz.sizeOf269
 v138 := Tryz.zeroValue269
 t139 := Tryz.underlying270
 a139 := Tryz.isAgg270
 z139 := Tryz.sizeOf270
 v139 := Tryz.zeroValue270
 g3 := by kernel_rfl
 g4 := by kernel_rfl }
open Go.RowKit in
theorem Tryz.strings_Trim_one (s : ByteArray) (c : UInt8) (hc : c.toNat < 128) (w : World) (hs : s.size <= 9223372036854775807) :
 Calls Tryz.prog 153 #[.string s, .string ⟨#[c]⟩] w fun e w' => e = .returned (.string ⟨(Lib.trimB s.data.toList c).toArray⟩) /\ (w' = w \/ w' = w.drew) := Any.strings_Trim_one Tryz.lays160 s c hc w hs
def Tryz.lays119_ren : Go.Shelf.Ren := ⟨fun | 119 => 226 | n => n, fun | 21 => 21 | 4 => 4 | n => n, fun | n => n⟩
theorem Tryz.lays119 : Go.Proofs.Lays.n119 Tryz.prog Tryz.lays119_ren := {
 mixed := by kernel_rfl
 f119 := Tryz.func226.trans (congrArg some (by kernel_rfl))
 t4 := Tryz.underlying4
 a4 := Tryz.isAgg4
 z4 := Tryz.sizeOf4
 v4 := Tryz.zeroValue4
 t21 := Tryz.underlying21
 a21 := Tryz.isAgg21
 z21 := Tryz.sizeOf21
 v21 := Tryz.zeroValue21 }
theorem Tryz.utf8_ValidRune (r : Int) (w : World) :
 Calls Tryz.prog 226 #[.int .i32 r] w fun e w' => e = .returned (.bool (Lib.validRune r)) /\ w' = w := Any.utf8_ValidRune Tryz.lays119 r w
def Tryz.lays137_ren : Go.Shelf.Ren := ⟨fun | 137 => 225 | 217 => 164 | 266 => 202 | n => n, fun | 9 => 9 | 5 => 5 | 3 => 3 | n => n, fun | n => n⟩
theorem Tryz.lays137 : Go.Proofs.Lays.n137 Tryz.prog Tryz.lays137_ren := {
 mixed := by kernel_rfl
 f137 := Tryz.func225.trans (congrArg some (by kernel_rfl))
 f217 := Tryz.func164.trans (congrArg some (by kernel_rfl))
 f266 := Tryz.func202.trans (congrArg some (by kernel_rfl))
 t3 := Tryz.underlying3
 a3 := Tryz.isAgg3
 z3 := Tryz.sizeOf3
 v3 := Tryz.zeroValue3
 t5 := Tryz.underlying5
 a5 := Tryz.isAgg5
 z5 := Tryz.sizeOf5
 v5 := Tryz.zeroValue5
 t9 := Tryz.underlying9
 a9 := Tryz.isAgg9
 z9 := Tryz.sizeOf9
 v9 := Tryz.zeroValue9 }
open Go.RowKit in
theorem Tryz.strings_IndexByte (s : ByteArray) (c : Int) (w : World) :
 Calls Tryz.prog 225 #[.string s, .int .u8 c] w fun e w' => e = .returned (.int .i64 (Lib.indexByte s.data.toList c.toNat.toUInt8)) /\ w' = w := Any.strings_IndexByte Tryz.lays137 s c w
open Go.RowKit in
def Tryz.laysC172_ren : Go.Shelf.Ren := ⟨fun | 172 => 129 | 244 => 150 | 245 => 151 | 247 => 178 | 279 => 179 | 280 => 180 | 281 => 181 | 282 => 182 | 287 => 206 | 316 => 207 | 171 => 209 | 205 => 208 | 321 => 222 | 322 => 223 | 243 => 224 | 246 => 229 | 283 => 230 | 284 => 231 | 285 => 232 | 286 => 233 | 129 => 235 | 317 => 234 | 318 => 236 | 319 => 237 | 320 => 238 | 337 => 239 | 338 => 240 | n => n, fun | 9 => 9 | 3 => 3 | 75 => 173 | 76 => 174 | 4 => 4 | 5 => 5 | 167 => 206 | 37 => 207 | 0 => 0 | 85 => 208 | 2 => 2 | 168 => 210 | 53 => 237 | 175 => 238 | 46 => 201 | 210 => 241 | 127 => 262 | 145 => 265 | 143 => 263 | 21 => 21 | 171 => 271 | 173 => 274 | 212 => 277 | 51 => 234 | 20 => 20 | 213 => 278 | 232 => 281 | 233 => 282 | 80 => 77 | n => n, fun | 15 => 3 | 16 => 4 | 17 => 8 | 18 => 9 | 19 => 10 | n => n⟩
theorem Tryz.laysC172 : Go.Proofs.LaysC.n172 Tryz.prog Tryz.laysC172_ren := {
 mixed := by kernel_rfl
 f129 := Tryz.func235.trans (congrArg some (by kernel_rfl))
 f171 := Tryz.func209.trans (congrArg some (by kernel_rfl))
 f172 := Tryz.func129.trans (congrArg some (by kernel_rfl))
 f205 := Tryz.func208.trans (congrArg some (by kernel_rfl))
 f243 := Tryz.func224.trans (congrArg some (by kernel_rfl))
 f244 := Tryz.func150.trans (congrArg some (by kernel_rfl))
 f245 := Tryz.func151.trans (congrArg some (by kernel_rfl))
 f246 := Tryz.func229.trans (congrArg some (by kernel_rfl))
 f247 := Tryz.func178.trans (congrArg some (by kernel_rfl))
 f279 := Tryz.func179.trans (congrArg some (by kernel_rfl))
 f280 := Tryz.func180.trans (congrArg some (by kernel_rfl))
 f281 := Tryz.func181.trans (congrArg some (by kernel_rfl))
 f282 := Tryz.func182.trans (congrArg some (by kernel_rfl))
 f283 := Tryz.func230.trans (congrArg some (by kernel_rfl))
 f284 := Tryz.func231.trans (congrArg some (by kernel_rfl))
 f285 := Tryz.func232.trans (congrArg some (by kernel_rfl))
 f286 := Tryz.func233.trans (congrArg some (by kernel_rfl))
 f287 := Tryz.func206.trans (congrArg some (by kernel_rfl))
 f316 := Tryz.func207.trans (congrArg some (by kernel_rfl))
 f317 := Tryz.func234.trans (congrArg some (by kernel_rfl))
 f318 := Tryz.func236.trans (congrArg some (by kernel_rfl))
 f319 := Tryz.func237.trans (congrArg some (by kernel_rfl))
 f320 := Tryz.func238.trans (congrArg some (by kernel_rfl))
 f321 := Tryz.func222.trans (congrArg some (by kernel_rfl))
 f322 := Tryz.func223.trans (congrArg some (by kernel_rfl))
 f337 := Tryz.func239.trans (congrArg some (by kernel_rfl))
 f338 := Tryz.func240.trans (congrArg some (by kernel_rfl))
 t0 := Tryz.underlying0
 a0 := Tryz.isAgg0
 z0 := Tryz.sizeOf0
 v0 := Tryz.zeroValue0
 t2 := Tryz.underlying2
 a2 := Tryz.isAgg2
 z2 := Tryz.sizeOf2
 v2 := Tryz.zeroValue2
 t3 := Tryz.underlying3
 a3 := Tryz.isAgg3
 z3 := Tryz.sizeOf3
 v3 := Tryz.zeroValue3
 t4 := Tryz.underlying4
 a4 := Tryz.isAgg4
 z4 := Tryz.sizeOf4
 v4 := Tryz.zeroValue4
 t5 := Tryz.underlying5
 a5 := Tryz.isAgg5
 z5 := Tryz.sizeOf5
 v5 := Tryz.zeroValue5
 t9 := Tryz.underlying9
 a9 := Tryz.isAgg9
 z9 := Tryz.sizeOf9
 v9 := Tryz.zeroValue9
 t20 := Tryz.underlying20
 a20 := Tryz.isAgg20
 z20 := Tryz.sizeOf20
 v20 := Tryz.zeroValue20
 t21 := Tryz.underlying21
 a21 := Tryz.isAgg21
 z21 := Tryz.sizeOf21
 v21 := Tryz.zeroValue21
 t37 := Tryz.underlying207
 a37 := Tryz.isAgg207
 z37 := Tryz.sizeOf207
 v37 := Tryz.zeroValue207
 t46 := Tryz.underlying201
 a46 := Tryz.isAgg201
 z46 := Tryz.sizeOf201
 v46 := Tryz.zeroValue201
 t51 := Tryz.underlying234
 a51 := Tryz.isAgg234
 z51 := Tryz.sizeOf234
 v51 := Tryz.zeroValue234
 t53 := Tryz.underlying237
 a53 := Tryz.isAgg237
 z53 := Tryz.sizeOf237
 v53 := Tryz.zeroValue237
 t75 := Tryz.underlying173
 a75 := Tryz.isAgg173
 z75 := Tryz.sizeOf173
 v75 := Tryz.zeroValue173
 t76 := Tryz.underlying174
 a76 := Tryz.isAgg174
 z76 := Tryz.sizeOf174
 v76 := Tryz.zeroValue174
 t85 := Tryz.underlying208
 a85 := Tryz.isAgg208
 z85 := Tryz.sizeOf208
 v85 := Tryz.zeroValue208
 t127 := Tryz.underlying262
 a127 := Tryz.isAgg262
 z127 := Tryz.sizeOf262
 v127 := Tryz.zeroValue262
 t143 := Tryz.underlying263
 a143 := Tryz.isAgg263
 z143 := Tryz.sizeOf263
 v143 := Tryz.zeroValue263
 t145 := Tryz.underlying265
 a145 := Tryz.isAgg265
 z145 := Tryz.sizeOf265
 v145 := Tryz.zeroValue265
 t167 := Tryz.underlying206
 a167 := Tryz.isAgg206
 z167 := Tryz.sizeOf206
 v167 := Tryz.zeroValue206
 t168 := Tryz.underlying210
 a168 := Tryz.isAgg210
 z168 := Tryz.sizeOf210
 v168 := Tryz.zeroValue210
 t171 := Tryz.underlying271
 a171 := Tryz.isAgg271
 z171 := Tryz.sizeOf271
 v171 := Tryz.zeroValue271
 t173 := Tryz.underlying274
 a173 := Tryz.isAgg274
 z173 := Tryz.sizeOf274
 v173 := Tryz.zeroValue274
 t175 := Tryz.underlying238
 a175 := Tryz.isAgg238
 z175 := Tryz.sizeOf238
 v175 := Tryz.zeroValue238
 t210 := Tryz.underlying241
 a210 := Tryz.isAgg241
 z210 := Tryz.sizeOf241
 v210 := Tryz.zeroValue241
 t212 := Tryz.underlying277
 a212 := Tryz.isAgg277
 z212 := Tryz.sizeOf277
 v212 := Tryz.zeroValue277
 t213 := Tryz.underlying278
 a213 := Tryz.isAgg278
 z213 := Tryz.sizeOf278
 t232 := Tryz.underlying281
 a232 := Tryz.isAgg281
 z232 := Tryz.sizeOf281
 v232 := Tryz.zeroValue281
 t233 := Tryz.underlying282
 a233 := Tryz.isAgg282
 z233 := Tryz.sizeOf282
 v233 := Tryz.zeroValue282
 g15 := by kernel_rfl
 g16 := by kernel_rfl
 g17 := by kernel_rfl
 g18 := by kernel_rfl
 g19 := by kernel_rfl
 t80 := Tryz.underlying77
 a80 := Tryz.isAgg77
 z80 := Tryz.sizeOf77
 v80 := Tryz.zeroValue77
 i0 := by kernel_rfl
 i2 := by kernel_rfl
 i3 := by kernel_rfl
 i4 := by kernel_rfl
 i5 := by kernel_rfl
 i9 := by kernel_rfl
 i20 := by kernel_rfl
 i21 := by kernel_rfl
 i37 := by kernel_rfl
 i46 := by kernel_rfl
 i51 := by kernel_rfl
 i53 := by kernel_rfl
 i75 := by kernel_rfl
 i76 := by kernel_rfl
 i80 := by kernel_rfl
 i85 := by kernel_rfl
 i127 := by kernel_rfl
 i143 := by kernel_rfl
 i145 := by kernel_rfl
 i167 := by kernel_rfl
 i168 := by kernel_rfl
 i171 := by kernel_rfl
 i173 := by kernel_rfl
 i175 := by kernel_rfl
 i210 := by kernel_rfl
 i212 := by kernel_rfl
 i232 := by kernel_rfl
 i233 := by kernel_rfl
 m15 := by kernel_rfl
 m16 := by kernel_rfl
 m17 := by kernel_rfl
 m18 := by kernel_rfl
 m19 := by kernel_rfl
 c0 := by kernel_rfl
 c2 := by kernel_rfl
 c3 := by kernel_rfl
 c4 := by kernel_rfl
 c5 := by kernel_rfl
 c9 := by kernel_rfl
 c20 := by kernel_rfl
 c21 := by kernel_rfl
 c37 := by kernel_rfl
 c46 := by kernel_rfl
 c51 := by kernel_rfl
 c53 := by kernel_rfl
 c75 := by kernel_rfl
 c76 := by kernel_rfl
 c80 := by kernel_rfl
 c85 := by kernel_rfl
 c127 := by kernel_rfl
 c143 := by kernel_rfl
 c145 := by kernel_rfl
 c167 := by kernel_rfl
 c168 := by kernel_rfl
 c171 := by kernel_rfl
 c173 := by kernel_rfl
 c175 := by kernel_rfl
 c210 := by kernel_rfl
 c212 := by kernel_rfl
 c213 := by kernel_rfl
 c232 := by kernel_rfl
 c233 := by kernel_rfl }
open Go.RowKit in
theorem Tryz.strconv_Atoi_ok (s : ByteArray) (hmax : s.size <= 9223372036854775806) (v : Int) (h : Lib.atoiAll s.data.toList = .ok v) (w : World) :
 Calls Tryz.prog 129 #[.string s] w fun e w' => e = .returned (.tuple #[.int .i64 v, .nilIface]) /\ (w' = w \/ ∃ t, w' = Lib.bytesWorld w 5 t) := Any.strconv_Atoi_ok Tryz.laysC172 s hmax v h w
open Go.RowKit in
theorem Tryz.strconv_Atoi_syntax (s : ByteArray) (hlim : s.size <= 281474976710656) (h0 : ∀ v, Lib.atoiAll s.data.toList ≠ .ok v) (h1 : Lib.atoiAll s.data.toList ≠ .range) (ev : Value) (w : World) (hv : w.cell? ⟨3, 0, none⟩ = some ev) (hev : ev = .nilIface \/ ∃ te pe, ev = .iface te pe) :
 Calls Tryz.prog 129 #[.string s] w fun e w' => ∃ N, e = .returned (.tuple #[.int .i64 (0), .iface 210 (.pointer (some ⟨N, 0, none⟩))]) /\ w.heap.size <= N /\ w'.heap[N]? = some (.cells #[.string ⟨#[65, 116, 111, 105]⟩, .string s, ev] 241 (0, 0)) /\ Below w.heap.size w w' := by
 cases hh : Lib.atoiAll s.data.toList
 . exact absurd hh (h0 _)
 . exact Any.strconv_Atoi_syntax Tryz.laysC172 s hlim hh ev w hv hev
 . exact absurd hh h1
open Go.RowKit in
theorem Tryz.strconv_Atoi_range (s : ByteArray) (hlim : s.size <= 281474976710656) (h : Lib.atoiAll s.data.toList = .range) (ev : Value) (w : World) (hv : w.cell? ⟨4, 0, none⟩ = some ev) (hev : ev = .nilIface \/ ∃ te pe, ev = .iface te pe) :
 Calls Tryz.prog 129 #[.string s] w fun e w' => ∃ N, e = .returned (.tuple #[.int .i64 (Lib.atoiSat s.data.toList), .iface 210 (.pointer (some ⟨N, 0, none⟩))]) /\ w.heap.size <= N /\ w'.heap[N]? = some (.cells #[.string ⟨#[65, 116, 111, 105]⟩, .string s, ev] 241 (0, 0)) /\ Below w.heap.size w w' := Any.strconv_Atoi_range Tryz.laysC172 s hlim h ev w hv hev
open Go.RowKit in
def Tryz.laysC174_ren : Go.Shelf.Ren := ⟨fun | 174 => 193 | 247 => 178 | 245 => 151 | 287 => 206 | 279 => 179 | 280 => 180 | 281 => 181 | 282 => 182 | 321 => 222 | 322 => 223 | 316 => 207 | 171 => 209 | 205 => 208 | 243 => 224 | 246 => 229 | 283 => 230 | 284 => 231 | 285 => 232 | 286 => 233 | 129 => 235 | 317 => 234 | 318 => 236 | 319 => 237 | 320 => 238 | 337 => 239 | 338 => 240 | n => n, fun | 9 => 9 | 3 => 3 | 2 => 2 | 75 => 173 | 85 => 208 | 4 => 4 | 167 => 206 | 5 => 5 | 53 => 237 | 175 => 238 | 46 => 201 | 168 => 210 | 37 => 207 | 0 => 0 | 210 => 241 | 21 => 21 | 127 => 262 | 145 => 265 | 143 => 263 | 171 => 271 | 173 => 274 | 212 => 277 | 51 => 234 | 20 => 20 | 213 => 278 | 232 => 281 | 233 => 282 | 80 => 77 | n => n, fun | 15 => 3 | 16 => 4 | 17 => 8 | 18 => 9 | 19 => 10 | n => n⟩
theorem Tryz.laysC174 : Go.Proofs.LaysC.n174 Tryz.prog Tryz.laysC174_ren := {
 mixed := by kernel_rfl
 f129 := Tryz.func235.trans (congrArg some (by kernel_rfl))
 f171 := Tryz.func209.trans (congrArg some (by kernel_rfl))
 f174 := Tryz.func193.trans (congrArg some (by kernel_rfl))
 f205 := Tryz.func208.trans (congrArg some (by kernel_rfl))
 f243 := Tryz.func224.trans (congrArg some (by kernel_rfl))
 f245 := Tryz.func151.trans (congrArg some (by kernel_rfl))
 f246 := Tryz.func229.trans (congrArg some (by kernel_rfl))
 f247 := Tryz.func178.trans (congrArg some (by kernel_rfl))
 f279 := Tryz.func179.trans (congrArg some (by kernel_rfl))
 f280 := Tryz.func180.trans (congrArg some (by kernel_rfl))
 f281 := Tryz.func181.trans (congrArg some (by kernel_rfl))
 f282 := Tryz.func182.trans (congrArg some (by kernel_rfl))
 f283 := Tryz.func230.trans (congrArg some (by kernel_rfl))
 f284 := Tryz.func231.trans (congrArg some (by kernel_rfl))
 f285 := Tryz.func232.trans (congrArg some (by kernel_rfl))
 f286 := Tryz.func233.trans (congrArg some (by kernel_rfl))
 f287 := Tryz.func206.trans (congrArg some (by kernel_rfl))
 f316 := Tryz.func207.trans (congrArg some (by kernel_rfl))
 f317 := Tryz.func234.trans (congrArg some (by kernel_rfl))
 f318 := Tryz.func236.trans (congrArg some (by kernel_rfl))
 f319 := Tryz.func237.trans (congrArg some (by kernel_rfl))
 f320 := Tryz.func238.trans (congrArg some (by kernel_rfl))
 f321 := Tryz.func222.trans (congrArg some (by kernel_rfl))
 f322 := Tryz.func223.trans (congrArg some (by kernel_rfl))
 f337 := Tryz.func239.trans (congrArg some (by kernel_rfl))
 f338 := Tryz.func240.trans (congrArg some (by kernel_rfl))
 t0 := Tryz.underlying0
 a0 := Tryz.isAgg0
 z0 := Tryz.sizeOf0
 v0 := Tryz.zeroValue0
 t2 := Tryz.underlying2
 a2 := Tryz.isAgg2
 z2 := Tryz.sizeOf2
 v2 := Tryz.zeroValue2
 t3 := Tryz.underlying3
 a3 := Tryz.isAgg3
 z3 := Tryz.sizeOf3
 v3 := Tryz.zeroValue3
 t4 := Tryz.underlying4
 a4 := Tryz.isAgg4
 z4 := Tryz.sizeOf4
 v4 := Tryz.zeroValue4
 t5 := Tryz.underlying5
 a5 := Tryz.isAgg5
 z5 := Tryz.sizeOf5
 v5 := Tryz.zeroValue5
 t9 := Tryz.underlying9
 a9 := Tryz.isAgg9
 z9 := Tryz.sizeOf9
 v9 := Tryz.zeroValue9
 t20 := Tryz.underlying20
 a20 := Tryz.isAgg20
 z20 := Tryz.sizeOf20
 v20 := Tryz.zeroValue20
 t21 := Tryz.underlying21
 a21 := Tryz.isAgg21
 z21 := Tryz.sizeOf21
 v21 := Tryz.zeroValue21
 t37 := Tryz.underlying207
 a37 := Tryz.isAgg207
 z37 := Tryz.sizeOf207
 v37 := Tryz.zeroValue207
 t46 := Tryz.underlying201
 a46 := Tryz.isAgg201
 z46 := Tryz.sizeOf201
 v46 := Tryz.zeroValue201
 t51 := Tryz.underlying234
 a51 := Tryz.isAgg234
 z51 := Tryz.sizeOf234
 v51 := Tryz.zeroValue234
 t53 := Tryz.underlying237
 a53 := Tryz.isAgg237
 z53 := Tryz.sizeOf237
 v53 := Tryz.zeroValue237
 t75 := Tryz.underlying173
 a75 := Tryz.isAgg173
 z75 := Tryz.sizeOf173
 v75 := Tryz.zeroValue173
 t85 := Tryz.underlying208
 a85 := Tryz.isAgg208
 z85 := Tryz.sizeOf208
 v85 := Tryz.zeroValue208
 t127 := Tryz.underlying262
 a127 := Tryz.isAgg262
 z127 := Tryz.sizeOf262
 v127 := Tryz.zeroValue262
 t143 := Tryz.underlying263
 a143 := Tryz.isAgg263
 z143 := Tryz.sizeOf263
 v143 := Tryz.zeroValue263
 t145 := Tryz.underlying265
 a145 := Tryz.isAgg265
 z145 := Tryz.sizeOf265
 v145 := Tryz.zeroValue265
 t167 := Tryz.underlying206
 a167 := Tryz.isAgg206
 z167 := Tryz.sizeOf206
 v167 := Tryz.zeroValue206
 t168 := Tryz.underlying210
 a168 := Tryz.isAgg210
 z168 := Tryz.sizeOf210
 v168 := Tryz.zeroValue210
 t171 := Tryz.underlying271
 a171 := Tryz.isAgg271
 z171 := Tryz.sizeOf271
 v171 := Tryz.zeroValue271
 t173 := Tryz.underlying274
 a173 := Tryz.isAgg274
 z173 := Tryz.sizeOf274
 v173 := Tryz.zeroValue274
 t175 := Tryz.underlying238
 a175 := Tryz.isAgg238
 z175 := Tryz.sizeOf238
 v175 := Tryz.zeroValue238
 t210 := Tryz.underlying241
 a210 := Tryz.isAgg241
 z210 := Tryz.sizeOf241
 v210 := Tryz.zeroValue241
 t212 := Tryz.underlying277
 a212 := Tryz.isAgg277
 z212 := Tryz.sizeOf277
 v212 := Tryz.zeroValue277
 t213 := Tryz.underlying278
 a213 := Tryz.isAgg278
 z213 := Tryz.sizeOf278
 t232 := Tryz.underlying281
 a232 := Tryz.isAgg281
 z232 := Tryz.sizeOf281
 v232 := Tryz.zeroValue281
 t233 := Tryz.underlying282
 a233 := Tryz.isAgg282
 z233 := Tryz.sizeOf282
 v233 := Tryz.zeroValue282
 g15 := by kernel_rfl
 g16 := by kernel_rfl
 g17 := by kernel_rfl
 g18 := by kernel_rfl
 g19 := by kernel_rfl
 t80 := Tryz.underlying77
 a80 := Tryz.isAgg77
 z80 := Tryz.sizeOf77
 v80 := Tryz.zeroValue77
 i0 := by kernel_rfl
 i2 := by kernel_rfl
 i3 := by kernel_rfl
 i4 := by kernel_rfl
 i5 := by kernel_rfl
 i9 := by kernel_rfl
 i20 := by kernel_rfl
 i21 := by kernel_rfl
 i37 := by kernel_rfl
 i46 := by kernel_rfl
 i51 := by kernel_rfl
 i53 := by kernel_rfl
 i75 := by kernel_rfl
 i80 := by kernel_rfl
 i85 := by kernel_rfl
 i127 := by kernel_rfl
 i143 := by kernel_rfl
 i145 := by kernel_rfl
 i167 := by kernel_rfl
 i168 := by kernel_rfl
 i171 := by kernel_rfl
 i173 := by kernel_rfl
 i175 := by kernel_rfl
 i210 := by kernel_rfl
 i212 := by kernel_rfl
 i232 := by kernel_rfl
 i233 := by kernel_rfl
 m15 := by kernel_rfl
 m16 := by kernel_rfl
 m17 := by kernel_rfl
 m18 := by kernel_rfl
 m19 := by kernel_rfl
 c0 := by kernel_rfl
 c2 := by kernel_rfl
 c3 := by kernel_rfl
 c4 := by kernel_rfl
 c5 := by kernel_rfl
 c9 := by kernel_rfl
 c20 := by kernel_rfl
 c21 := by kernel_rfl
 c37 := by kernel_rfl
 c46 := by kernel_rfl
 c51 := by kernel_rfl
 c53 := by kernel_rfl
 c75 := by kernel_rfl
 c80 := by kernel_rfl
 c85 := by kernel_rfl
 c127 := by kernel_rfl
 c143 := by kernel_rfl
 c145 := by kernel_rfl
 c167 := by kernel_rfl
 c168 := by kernel_rfl
 c171 := by kernel_rfl
 c173 := by kernel_rfl
 c175 := by kernel_rfl
 c210 := by kernel_rfl
 c212 := by kernel_rfl
 c213 := by kernel_rfl
 c232 := by kernel_rfl
 c233 := by kernel_rfl }
open Go.RowKit in
theorem Tryz.strconv_ParseInt_10_at64_ok (s : ByteArray) (hmax : s.size <= 9223372036854775806) (v : Int) (h : Lib.parseIntB 64 s.data.toList = .ok v) (w : World) :
 Calls Tryz.prog 193 #[.string s, .int .i64 10, .int .i64 64] w fun e w' => e = .returned (.tuple #[.int .i64 v, .nilIface]) /\ (w' = w \/ ∃ t, w' = Lib.bytesWorld w 5 t) := Any.strconv_ParseInt_10_at64_ok Tryz.laysC174 s hmax v h w
open Go.RowKit Go.Lib in
def Tryz.lays144_ren : Go.Shelf.Ren := ⟨fun | 144 => 84 | 143 => 116 | 219 => 139 | 217 => 164 | 225 => 165 | 224 => 166 | 267 => 167 | 266 => 202 | 314 => 203 | n => n, fun | 9 => 9 | 4 => 4 | 3 => 3 | 5 => 5 | 46 => 201 | 146 => 235 | 51 => 234 | n => n, fun | 1 => 0 | n => n⟩
theorem Tryz.lays144 : Go.Proofs.Lays.n144 Tryz.prog Tryz.lays144_ren := {
 mixed := by kernel_rfl
 f143 := Tryz.func116.trans (congrArg some (by kernel_rfl))
 f144 := Tryz.func84.trans (congrArg some (by kernel_rfl))
 f217 := Tryz.func164.trans (congrArg some (by kernel_rfl))
 f219 := Tryz.func139.trans (congrArg some (by kernel_rfl))
 f224 := Tryz.func166.trans (congrArg some (by kernel_rfl))
 f225 := Tryz.func165.trans (congrArg some (by kernel_rfl))
 f266 := Tryz.func202.trans (congrArg some (by kernel_rfl))
 f267 := Tryz.func167.trans (congrArg some (by kernel_rfl))
 f314 := Tryz.func203.trans (congrArg some (by kernel_rfl))
 t3 := Tryz.underlying3
 a3 := Tryz.isAgg3
 z3 := Tryz.sizeOf3
 v3 := Tryz.zeroValue3
 t4 := Tryz.underlying4
 a4 := Tryz.isAgg4
 z4 := Tryz.sizeOf4
 v4 := Tryz.zeroValue4
 t5 := Tryz.underlying5
 a5 := Tryz.isAgg5
 z5 := Tryz.sizeOf5
 v5 := Tryz.zeroValue5
 t9 := Tryz.underlying9
 a9 := Tryz.isAgg9
 z9 := Tryz.sizeOf9
 v9 := Tryz.zeroValue9
 t46 := Tryz.underlying201
 a46 := Tryz.isAgg201
 z46 := Tryz.sizeOf201
 v46 := Tryz.zeroValue201
 t51 := Tryz.underlying234
 a51 := Tryz.isAgg234
 z51 := Tryz.sizeOf234
 v51 := Tryz.zeroValue234
 t146 := Tryz.underlying235
 a146 := Tryz.isAgg235
 z146 := Tryz.sizeOf235
 v146 := Tryz.zeroValue235
 g1 := by kernel_rfl }
open Go.RowKit Go.Lib in
theorem Tryz.strings_Contains_one (s : ByteArray) (c : UInt8) (w : World) :
 Calls Tryz.prog 84 #[.string s, .string ⟨#[c]⟩] w fun e w' => e = .returned (.bool (decide (0 <= Lib.indexByte s.data.toList c))) /\ w' = w := Any.strings_Contains_one Tryz.lays144 s c w
open Go.RowKit Go.Lib in
def Tryz.laysGw15_ren : Go.Shelf.Ren := ⟨fun | 15 => 183 | 20 => 210 | n => n, fun | 9 => 9 | 23 => 215 | 3 => 3 | 4 => 4 | 0 => 0 | 21 => 21 | n => n, fun | n => n⟩
theorem Tryz.laysGw15 : Go.Proofs.LaysGw.n15 Tryz.prog Tryz.laysGw15_ren := {
 mixed := by kernel_rfl
 f15 := Tryz.func183.trans (congrArg some (by kernel_rfl))
 f20 := Tryz.func210.trans (congrArg some (by kernel_rfl))
 t0 := Tryz.underlying0
 a0 := Tryz.isAgg0
 z0 := Tryz.sizeOf0
 v0 := Tryz.zeroValue0
 i0 := by kernel_rfl
 t3 := Tryz.underlying3
 a3 := Tryz.isAgg3
 z3 := Tryz.sizeOf3
 v3 := Tryz.zeroValue3
 i3 := by kernel_rfl
 t4 := Tryz.underlying4
 a4 := Tryz.isAgg4
 z4 := Tryz.sizeOf4
 v4 := Tryz.zeroValue4
 i4 := by kernel_rfl
 t9 := Tryz.underlying9
 a9 := Tryz.isAgg9
 z9 := Tryz.sizeOf9
 v9 := Tryz.zeroValue9
 i9 := by kernel_rfl
 t21 := Tryz.underlying21
 a21 := Tryz.isAgg21
 z21 := Tryz.sizeOf21
 v21 := Tryz.zeroValue21
 i21 := by kernel_rfl
 t23 := Tryz.underlying215
 a23 := Tryz.isAgg215
 z23 := Tryz.sizeOf215
 v23 := Tryz.zeroValue215
 i23 := by kernel_rfl }
open Go.RowKit Go.Lib in
def Tryz.lays151_ren : Go.Shelf.Ren := ⟨fun | 151 => 185 | 152 => 211 | 137 => 225 | 119 => 226 | 224 => 166 | 225 => 165 | 217 => 164 | 266 => 202 | n => n, fun | 9 => 9 | 21 => 21 | 4 => 4 | 3 => 3 | 5 => 5 | 0 => 0 | 46 => 201 | n => n, fun | n => n⟩
theorem Tryz.lays151 : Go.Proofs.Lays.n151 Tryz.prog Tryz.lays151_ren := {
 mixed := by kernel_rfl
 f119 := Tryz.func226.trans (congrArg some (by kernel_rfl))
 f137 := Tryz.func225.trans (congrArg some (by kernel_rfl))
 f151 := Tryz.func185.trans (congrArg some (by kernel_rfl))
 f152 := Tryz.func211.trans (congrArg some (by kernel_rfl))
 f217 := Tryz.func164.trans (congrArg some (by kernel_rfl))
 f224 := Tryz.func166.trans (congrArg some (by kernel_rfl))
 f225 := Tryz.func165.trans (congrArg some (by kernel_rfl))
 f266 := Tryz.func202.trans (congrArg some (by kernel_rfl))
 t0 := Tryz.underlying0
 a0 := Tryz.isAgg0
 z0 := Tryz.sizeOf0
 v0 := Tryz.zeroValue0
 t3 := Tryz.underlying3
 a3 := Tryz.isAgg3
 z3 := Tryz.sizeOf3
 v3 := Tryz.zeroValue3
 t4 := Tryz.underlying4
 a4 := Tryz.isAgg4
 z4 := Tryz.sizeOf4
 v4 := Tryz.zeroValue4
 t5 := Tryz.underlying5
 a5 := Tryz.isAgg5
 z5 := Tryz.sizeOf5
 v5 := Tryz.zeroValue5
 t9 := Tryz.underlying9
 a9 := Tryz.isAgg9
 z9 := Tryz.sizeOf9
 v9 := Tryz.zeroValue9
 t21 := Tryz.underlying21
 a21 := Tryz.isAgg21
 z21 := Tryz.sizeOf21
 v21 := Tryz.zeroValue21
 t46 := Tryz.underlying201
 a46 := Tryz.isAgg201
 z46 := Tryz.sizeOf201
 v46 := Tryz.zeroValue201 }
open Go.RowKit Go.Lib in
theorem Tryz.strings_ContainsRune_ascii (s : ByteArray) (r : Int) (w : World) (h0 : 0 <= r) (h1 : r < 128) :
 Calls Tryz.prog 185 #[.string s, .int .i32 r] w fun e w' => e = .returned (.bool (decide (0 <= Lib.indexByte s.data.toList r.toNat.toUInt8))) /\ w' = w := Any.strings_ContainsRune_ascii Tryz.lays151 s r w h0 h1
open Go.RowKit Go.Lib in
def Tryz.lays264_ren : Go.Shelf.Ren := ⟨fun | 264 => 215 | n => n, fun | 53 => 237 | 46 => 201 | n => n, fun | n => n⟩
theorem Tryz.lays264 : Go.Proofs.Lays.n264 Tryz.prog Tryz.lays264_ren := {
 mixed := by kernel_rfl
 f264 := Tryz.func215.trans (congrArg some (by kernel_rfl))
 t46 := Tryz.underlying201
 a46 := Tryz.isAgg201
 z46 := Tryz.sizeOf201
 v46 := Tryz.zeroValue201
 t53 := Tryz.underlying237
 a53 := Tryz.isAgg237
 z53 := Tryz.sizeOf237
 v53 := Tryz.zeroValue237 }
open Go.RowKit Go.Lib in
theorem Tryz.bits_Mul64 (x y : Nat) (hx : x < 18446744073709551616) (hy : y < 18446744073709551616) (w : World) :
 Calls Tryz.prog 215 #[.int .u64 x, .int .u64 y] w fun e w' => e = .returned (.tuple #[.int .u64 ((x * y / 18446744073709551616 : Nat) : Int), .int .u64 ((x * y % 18446744073709551616 : Nat) : Int)]) /\ w' = w := Any.bits_Mul64 Tryz.lays264 x y hx hy w
open Go.RowKit Go.Lib in
theorem Tryz.strings_IndexFunc_grows (g : Nat) (lb : Array Value) (eg : ∀ args w, (callFunc g args).run Tryz.prog w = .ok (.enter g args) w) (p : Nat -> Bool) (s : ByteArray) (w : World) (hp : PredGrows Tryz.prog g lb p w) :
 Calls Tryz.prog 183 #[.string s, .func (.func g) #[] lb] w fun e w' => e = .returned (.int .i64 (Lib.idxFunc p true s)) /\ Below w.heap.size w w' := Any.strings_IndexFunc_grows Tryz.laysGw15 g lb eg p s w hp
def Tryz.lays112_ren : Go.Shelf.Ren := ⟨fun | 112 => 112 | n => n, fun | 28 => 114 | 3 => 3 | 4 => 4 | 0 => 0 | n => n, fun | n => n⟩
theorem Tryz.lays112 : Go.Proofs.Lays.n112 Tryz.prog Tryz.lays112_ren := {
 mixed := by kernel_rfl
 f112 := Tryz.func112.trans (congrArg some (by kernel_rfl))
 t0 := Tryz.underlying0
 a0 := Tryz.isAgg0
 z0 := Tryz.sizeOf0
 v0 := Tryz.zeroValue0
 t3 := Tryz.underlying3
 a3 := Tryz.isAgg3
 z3 := Tryz.sizeOf3
 v3 := Tryz.zeroValue3
 t4 := Tryz.underlying4
 a4 := Tryz.isAgg4
 z4 := Tryz.sizeOf4
 v4 := Tryz.zeroValue4
 t28 := Tryz.underlying114
 a28 := Tryz.isAgg114
 z28 := Tryz.sizeOf114
 v28 := Tryz.zeroValue114 }
open Go.RowKit Go.Lib Go.Sort in
theorem Tryz.slices_Reverse_int (blk off cap : Nat) (zs : List Int) (w : World) (hH : Holds (Value.int .i64) w blk off zs.toArray) (hsz : zs.length <= 9223372036854775807) :
 Calls Tryz.prog 112 #[.slice (some ⟨blk, off, none⟩) zs.length cap] w fun e w' => e = .returned (.tuple #[]) /\ ∃ n, w' = putRow (Value.int .i64) (Sort.ahead w n) blk off zs.reverse.toArray := Any.slices_Reverse_int Tryz.lays112 blk off cap zs w hH hsz
open Go.RowKit Go.Lib Go.Sort in
def Tryz.laysNm215_ren : Go.Shelf.Ren := ⟨fun | 15 => 111 | n => n, fun | 22 => 114 | 3 => 3 | 4 => 4 | n => n, fun | n => n⟩
theorem Tryz.laysNm215 : Go.Proofs.Lays2.n15 Tryz.prog Tryz.laysNm215_ren := {
 mixed := by kernel_rfl
 f15 := Tryz.func111.trans (congrArg some (by kernel_rfl))
 t3 := Tryz.underlying3
 a3 := Tryz.isAgg3
 z3 := Tryz.sizeOf3
 v3 := Tryz.zeroValue3
 t4 := Tryz.underlying4
 a4 := Tryz.isAgg4
 z4 := Tryz.sizeOf4
 v4 := Tryz.zeroValue4
 t22 := Tryz.underlying114
 a22 := Tryz.isAgg114
 z22 := Tryz.sizeOf114
 v22 := Tryz.zeroValue114
 i3 := by kernel_rfl }
open Go.RowKit Go.Lib in
theorem Tryz.slices_Clone_int (b off n c : Nat) (zs : List Int) (w : World) (hz : n <= zs.length) (hbig : n * 8 <= 140737488355328) (hc : ∀ j, j < zs.length -> w.cell? ⟨b, off + j, none⟩ = some (.int .i64 (zs.getD j 0))) :
 Calls Tryz.prog 111 #[.slice (some ⟨b, off, none⟩) n c] w fun e w' => ∃ v', e = .returned v' /\ w'.ownsRow w.heap.size 3 1 v' n ((zs.take n).map (Value.int .i64)) /\ v' ≠ .slice none 0 0 /\ Below w.heap.size w w' := Any.slices_Clone_int Tryz.laysNm215 b off n c zs w hz hbig hc
end Go.Proofs
namespace Go.Proofs.YtacggmlngekidaaGreatDoor
section
namespace Cal
def MX (y : Int) : Int := 1 + (y - 1) / 4 - (y - 1) / 100 + (y - 1) / 400
def st (y : Int) : Int := 365 * y + MX y
def leap (y : Int) : Bool := decide (y % 4 = 0) && (decide (y % 100 ≠ 0) || decide (y % 400 = 0))
def lp (y : Int) : Int := if leap y then 1 else 0
theorem OC (y : Int) : 0 <= lp y /\ lp y <= 1 := by unfold lp; split <;> omega
theorem YO (y : Int) : MX (y + 1) = MX y + lp y := by
 unfold MX lp leap
 by_cases h4 : y % 4 = 0 <;> by_cases h1 : y % 100 = 0 <;> by_cases h5 : y % 400 = 0 <;> simp [h4, h1, h5] <;> omega
theorem st_succ (y : Int) : st (y + 1) = st y + 365 + lp y := by
 unfold st; rw [YO]; omega
theorem nG {a b : Int} (h : a <= b) : st a + 365 * (b - a) <= st b := by
 unfold st MX; omega
def dU (d : Int) : Int := let y := 400 * d / 146097; if st (y + 1) <= d then y + 1 else if d < st y then y - 1 else y
theorem iE (d : Int) : st (dU d) <= d /\ d < st (dU d + 1) := by
 unfold dU
 have h1 : st (400 * d / 146097 + 2) = st (400 * d / 146097 + 1) + 365 + lp (400 * d / 146097 + 1) := by
  have := st_succ (400 * d / 146097 + 1)
  rw [show 400 * d / 146097 + 1 + 1 = 400 * d / 146097 + 2 by omega] at this; exact this
 have a : d < st (400 * d / 146097 + 2) := by unfold st MX; omega
 have b : st (400 * d / 146097 - 1) <= d := by unfold st MX; omega
 generalize 400 * d / 146097 = y at *
 show st (if st (y + 1) <= d then y + 1 else if d < st y then y - 1 else y) <= d /\ d < st ((if st (y + 1) <= d then y + 1 else if d < st y then y - 1 else y) + 1)
 split
 . exact ⟨by assumption, by rw [show y + 1 + 1 = y + 2 by omega]; exact a⟩
 . split
   . exact ⟨b, by rw [show y - 1 + 1 = y by omega]; assumption⟩
   . omega
theorem Y9 {d y : Int} (h1 : st y <= d) (h2 : d < st (y + 1)) : dU d = y := by
 obtain ⟨a, b⟩ := iE d
 by_cases c : dU d = y
 . exact c
 . rcases Int.lt_or_gt_of_ne c with c | c
   . have := nG (a := dU d + 1) (b := y) (by omega); omega
   . have := nG (a := y + 1) (b := dU d) (by omega); omega
theorem ZA {d y : Int} : dU d < y ↔ d < st y := by
 obtain ⟨a, b⟩ := iE d
 constructor
 . intro h
   have := nG (a := dU d + 1) (b := y) (by omega); omega
 . intro h
   by_cases c : dU d < y
   . exact c
   . have := nG (a := y) (b := dU d) (by omega); omega
def rst (y : Int) : Int := y / 400 * 146097 + 365 * (y - y / 400 * 400) + (y - y / 400 * 400 + 3) / 4 - (y - y / 400 * 400 + 99) / 100 + (y - y / 400 * 400 + 399) / 400
theorem aLu (y : Int) : rst y = st y := by unfold rst st MX; omega
def len (y m : Int) : Int := if m = 2 then 28 + lp y else if m = 4 \/ m = 6 \/ m = 9 \/ m = 11 then 30 else 31
def dW (y m : Int) : Int := if m <= 1 then 0 else if m <= 2 then 31 else (if m <= 3 then 59 else if m <= 4 then 90 else if m <= 5 then 120 else if m <= 6 then 151 else if m <= 7 then 181 else if m <= 8 then 212 else if m <= 9 then 243 else if m <= 10 then 273 else if m <= 11 then 304 else if m <= 12 then 334 else 365) + lp y
theorem dY (y m : Int) (h1 : 1 <= m) (h2 : m <= 12) : dW y (m + 1) = dW y m + len y m := by
 unfold dW len
 have : m = 1 \/ m = 2 \/ m = 3 \/ m = 4 \/ m = 5 \/ m = 6 \/ m = 7 \/ m = 8 \/ m = 9 \/ m = 10 \/ m = 11 \/ m = 12 := by omega
 rcases this with rfl | rfl | rfl | rfl | rfl | rfl | rfl | rfl | rfl | rfl | rfl | rfl <;> simp <;> omega
theorem gI (y m : Int) : 28 <= len y m /\ len y m <= 31 := by
 have := OC y
 unfold len; split
 . omega
 . split <;> omega
theorem sQ {y m : Int} (h1 : 1 <= m) (h2 : m <= 13) : 0 <= dW y m /\ dW y m <= 366 := by
 have := OC y
 unfold dW
 have : m = 1 \/ m = 2 \/ m = 3 \/ m = 4 \/ m = 5 \/ m = 6 \/ m = 7 \/ m = 8 \/ m = 9 \/ m = 10 \/ m = 11 \/ m = 12 \/ m = 13 := by omega
 rcases this with rfl | rfl | rfl | rfl | rfl | rfl | rfl | rfl | rfl | rfl | rfl | rfl | rfl <;> simp <;> omega
theorem FW (y : Int) : dW y 1 = 0 := by unfold dW; simp
theorem aHq (y : Int) : dW y 13 = 365 + lp y := by unfold dW; simp
theorem aEd (y : Int) : dW y 2 = dW y 1 + len y 1 /\ dW y 3 = dW y 2 + len y 2 /\ dW y 4 = dW y 3 + len y 3 /\ dW y 5 = dW y 4 + len y 4 /\ dW y 6 = dW y 5 + len y 5 /\ dW y 7 = dW y 6 + len y 6 /\ dW y 8 = dW y 7 + len y 7 /\ dW y 9 = dW y 8 + len y 8 /\ dW y 10 = dW y 9 + len y 9 /\ dW y 11 = dW y 10 + len y 10 /\ dW y 12 = dW y 11 + len y 11 /\ dW y 13 = dW y 12 + len y 12 :=
 ⟨dY y 1 (by omega) (by omega), dY y 2 (by omega) (by omega), dY y 3 (by omega) (by omega), dY y 4 (by omega) (by omega), dY y 5 (by omega) (by omega), dY y 6 (by omega) (by omega), dY y 7 (by omega) (by omega), dY y 8 (by omega) (by omega), dY y 9 (by omega) (by omega), dY y 10 (by omega) (by omega), dY y 11 (by omega) (by omega), dY y 12 (by omega) (by omega)⟩
theorem X4 {y a b : Int} (h1 : 1 <= a) (h : a < b) (h2 : b <= 13) : dW y a + len y a <= dW y b := by
 obtain ⟨n, rfl⟩ : ∃ n : Nat, b = a + 1 + n := ⟨(b - a - 1).toNat, by omega⟩
 clear h
 induction n with
 | zero => have := dY y a h1 (by omega); simp; omega
 | succ n ih =>
  have h3 := ih (by omega)
  have h4 := dY y (a + 1 + n) (by omega) (by omega)
  have h5 := gI y (a + 1 + n)
  rw [show a + 1 + ((n + 1 : Nat) : Int) = a + 1 + n + 1 by omega]; omega
def LW (y d : Int) : Int := if d < dW y 2 then 1 else if d < dW y 3 then 2 else if d < dW y 4 then 3 else if d < dW y 5 then 4 else if d < dW y 6 then 5 else if d < dW y 7 then 6 else if d < dW y 8 then 7 else if d < dW y 9 then 8 else if d < dW y 10 then 9 else if d < dW y 11 then 10 else if d < dW y 12 then 11 else 12
theorem aAw {y d m : Int} (h1 : 1 <= m) (h2 : m <= 12) (ha : dW y m <= d) (hb : d < dW y (m + 1)) : LW y d = m := by
 obtain ⟨c1, c2, c3, c4, c5, c6, c7, c8, c9, c10, c11, c12⟩ := aEd y
 have l1 := gI y 1; have l2 := gI y 2; have l3 := gI y 3; have l4 := gI y 4; have l5 := gI y 5; have l6 := gI y 6
 have l7 := gI y 7; have l8 := gI y 8; have l9 := gI y 9; have l10 := gI y 10; have l11 := gI y 11; have l12 := gI y 12
 unfold LW
 have : m = 1 \/ m = 2 \/ m = 3 \/ m = 4 \/ m = 5 \/ m = 6 \/ m = 7 \/ m = 8 \/ m = 9 \/ m = 10 \/ m = 11 \/ m = 12 := by omega
 rcases this with rfl | rfl | rfl | rfl | rfl | rfl | rfl | rfl | rfl | rfl | rfl | rfl
 . rw [show (1 : Int) + 1 = 2 from rfl] at hb; rw [if_pos hb]
 . rw [show (2 : Int) + 1 = 3 from rfl] at hb; rw [if_neg (by omega), if_pos hb]
 . rw [show (3 : Int) + 1 = 4 from rfl] at hb; rw [if_neg (by omega), if_neg (by omega), if_pos hb]
 . rw [show (4 : Int) + 1 = 5 from rfl] at hb; rw [if_neg (by omega), if_neg (by omega), if_neg (by omega), if_pos hb]
 . rw [show (5 : Int) + 1 = 6 from rfl] at hb; rw [if_neg (by omega), if_neg (by omega), if_neg (by omega), if_neg (by omega), if_pos hb]
 . rw [show (6 : Int) + 1 = 7 from rfl] at hb; rw [if_neg (by omega), if_neg (by omega), if_neg (by omega), if_neg (by omega), if_neg (by omega), if_pos hb]
 . rw [show (7 : Int) + 1 = 8 from rfl] at hb; rw [if_neg (by omega), if_neg (by omega), if_neg (by omega), if_neg (by omega), if_neg (by omega), if_neg (by omega), if_pos hb]
 . rw [show (8 : Int) + 1 = 9 from rfl] at hb; rw [if_neg (by omega), if_neg (by omega), if_neg (by omega), if_neg (by omega), if_neg (by omega), if_neg (by omega), if_neg (by omega), if_pos hb]
 . rw [show (9 : Int) + 1 = 10 from rfl] at hb; rw [if_neg (by omega), if_neg (by omega), if_neg (by omega), if_neg (by omega), if_neg (by omega), if_neg (by omega), if_neg (by omega), if_neg (by omega), if_pos hb]
 . rw [show (10 : Int) + 1 = 11 from rfl] at hb; rw [if_neg (by omega), if_neg (by omega), if_neg (by omega), if_neg (by omega), if_neg (by omega), if_neg (by omega), if_neg (by omega), if_neg (by omega), if_neg (by omega), if_pos hb]
 . rw [show (11 : Int) + 1 = 12 from rfl] at hb; rw [if_neg (by omega), if_neg (by omega), if_neg (by omega), if_neg (by omega), if_neg (by omega), if_neg (by omega), if_neg (by omega), if_neg (by omega), if_neg (by omega), if_neg (by omega), if_pos hb]
 . rw [if_neg (by omega), if_neg (by omega), if_neg (by omega), if_neg (by omega), if_neg (by omega), if_neg (by omega), if_neg (by omega), if_neg (by omega), if_neg (by omega), if_neg (by omega), if_neg (by omega)]
theorem oN {y d : Int} (h0 : 0 <= d) (h : d < 365 + lp y) : 1 <= LW y d /\ LW y d <= 12 /\ dW y (LW y d) <= d /\ d < dW y (LW y d + 1) := by
 have key : ∃ m, 1 <= m /\ m <= 12 /\ dW y m <= d /\ d < dW y (m + 1) := by
  by_cases c2 : d < dW y 2
  . exact ⟨1, by omega, by omega, by rw [FW]; omega, c2⟩
  by_cases c3 : d < dW y 3
  . exact ⟨2, by omega, by omega, by omega, c3⟩
  by_cases c4 : d < dW y 4
  . exact ⟨3, by omega, by omega, by omega, c4⟩
  by_cases c5 : d < dW y 5
  . exact ⟨4, by omega, by omega, by omega, c5⟩
  by_cases c6 : d < dW y 6
  . exact ⟨5, by omega, by omega, by omega, c6⟩
  by_cases c7 : d < dW y 7
  . exact ⟨6, by omega, by omega, by omega, c7⟩
  by_cases c8 : d < dW y 8
  . exact ⟨7, by omega, by omega, by omega, c8⟩
  by_cases c9 : d < dW y 9
  . exact ⟨8, by omega, by omega, by omega, c9⟩
  by_cases c10 : d < dW y 10
  . exact ⟨9, by omega, by omega, by omega, c10⟩
  by_cases c11 : d < dW y 11
  . exact ⟨10, by omega, by omega, by omega, c11⟩
  by_cases c12 : d < dW y 12
  . exact ⟨11, by omega, by omega, by omega, c12⟩
  . exact ⟨12, by omega, by omega, by omega, by rw [show (12 : Int) + 1 = 13 by rfl, aHq]; exact h⟩
 obtain ⟨m, h1, h2, h3, h4⟩ := key
 rw [aAw h1 h2 h3 h4]
 exact ⟨h1, h2, h3, h4⟩
end Cal
end
section
open Go.RowKit
namespace Un
theorem ri {k : IntKind} {a b : Int} (h : a = b) : Ending.returned (.int k a) = .returned (.int k b) := by rw [h]
theorem rb {a b : Bool} (h : a = b) : Ending.returned (.bool a) = .returned (.bool b) := by rw [h]
theorem aX {a b c d : Int} {k k' : IntKind} (h : a = b) (h2 : c = d) : Ending.returned (.tuple #[.int k a, .int k' c]) = .returned (.tuple #[.int k b, .int k' d]) := by rw [h, h2]
theorem bP {a b : Bool} {c d : Int} {k : IntKind} (h : a = b) (h2 : c = d) : Ending.returned (.tuple #[.bool a, .int k c]) = .returned (.tuple #[.bool b, .int k d]) := by rw [h, h2]
theorem wM {a b : Int} (hb : 0 < b) :
 (a.tmod b ≠ 0 /\ a < 0 -> a.tdiv b - 1 = a / b /\ a.tmod b + b = a % b) /\ (a.tmod b = 0 \/ 0 <= a -> a.tdiv b = a / b /\ a.tmod b = a % b) /\ (a.tmod b ≠ 0 -> (a.tmod b < 0 ↔ a < 0)) := by
 have h1 := @Int.tdiv_eq_ediv a b
 have h2 := @Int.tmod_eq_emod a b
 rw [Int.sign_eq_one_of_pos hb] at h1
 have h3 := Int.emod_nonneg a (show b ≠ 0 by omega)
 have h4 := Int.emod_lt_of_pos a hb
 by_cases c : 0 <= a \/ b ∣ a
 . rw [if_pos c] at h1 h2
   simp only [Int.natCast_zero, Int.sub_zero, Int.add_zero] at h1 h2
   refine ⟨fun ⟨h5, h6⟩ => ?_, fun _ => ⟨h1, h2⟩, fun h5 => ?_⟩
   . exfalso
     rcases c with c | c
     . omega
     . exact h5 (Int.tmod_eq_zero_of_dvd c)
   . rcases c with c | c
     . constructor <;> intro h <;> omega
     . exact absurd (Int.tmod_eq_zero_of_dvd c) h5
 . rw [if_neg c] at h1 h2
   have hn : (b.natAbs : Int) = b := by omega
   rw [hn] at h2
   have ha : a < 0 := by
    by_cases q : a < 0
    . exact q
    . exact absurd (Or.inl (by omega)) c
   have h5 : a.tmod b ≠ 0 := fun h => c (Or.inr (Int.dvd_of_tmod_eq_zero h))
   refine ⟨fun _ => ⟨by omega, by omega⟩, fun h => ?_, fun _ => ⟨fun _ => ha, fun _ => by omega⟩⟩
   rcases h with h | h
   . exact absurd h h5
   . omega
theorem wrap_in {n : Int} (h0 : -9223372036854775808 <= n) (h1 : n < 9223372036854775808) : wrap64 n = n := by
 unfold wrap64; omega
theorem zY {a b : Int} (hb : 1 < b) (h0 : -9223372036854775808 <= a) (h1 : a < 9223372036854775808) : -9223372036854775808 <= a / b /\ a / b < 9223372036854775808 := by
 refine ⟨(Int.le_ediv_iff_mul_le (by omega)).2 (by omega), (Int.ediv_lt_iff_lt_mul (by omega)).2 (by omega)⟩
theorem rZ (a b : Int) (w : World) (hb : 1 < b) (hb2 : b < 9223372036854775808) (h0 : -9223372036854775808 <= a) (h1 : a < 9223372036854775808) :
 Calls Tryz.prog 168 #[.int .i64 a, .int .i64 b] w fun e w' => e = .returned (.tuple #[.int .i64 (a / b), .int .i64 0]) /\ w = w' := by
 obtain ⟨c1, c2, c3⟩ := @wM a b (by omega)
 have b0 : (b == 0) = false := by rw [beq_eq_false_iff_ne]; omega
 have b1 : (b == -1) = false := by rw [beq_eq_false_iff_ne]; omega
 have b2 : decide (b < 0) = false := decide_eq_false (by omega)
 by_cases ha : 0 <= a
 . have a2 : decide (a < 0) = false := decide_eq_false (by omega)
   clear c1 c2 c3
   by_cases hz : a % b = 0
   . have hz2 : (a % b != 0) = false := by rw [hz]; rfl
     have HZ := Lib.hid hz
     clear hz
     go_enter Tryz.func168, Tryz.ntmps168
     go_wp2
     go_ret2
     exact ⟨aX (by first | rfl | exact HZ.out.symm) rfl, rfl⟩
   . have hz2 : (a % b != 0) = true := by rw [bne_iff_ne]; exact hz
     have m2 : decide (a % b < 0) = false := decide_eq_false (by have := Int.emod_nonneg a (show b ≠ 0 by omega); omega)
     clear hz
     go_enter Tryz.func168, Tryz.ntmps168
     go_wp2
     go_ret2
     exact ⟨rfl, rfl⟩
 . have a2 : decide (a < 0) = true := decide_eq_true (by omega)
   by_cases hz : a.tmod b = 0
   . obtain ⟨e1, e2⟩ := c2 (Or.inl hz)
     have hz2 : (a.tmod b != 0) = false := by rw [hz]; rfl
     have E1 := Lib.hid e1; have E2 := Lib.hid e2
     clear hz e1 e2 c1 c2 c3
     go_enter Tryz.func168, Tryz.ntmps168
     go_wp2
     go_ret2
     exact ⟨aX E1.out rfl, rfl⟩
   . obtain ⟨e1, e2⟩ := c1 ⟨hz, by omega⟩
     have hz2 : (a.tmod b != 0) = true := by rw [bne_iff_ne]; exact hz
     have m2 : decide (a.tmod b < 0) = true := decide_eq_true ((c3 hz).2 (by omega))
     have w1 : wrap64 (a.tdiv b - 1) = a / b := by rw [e1]; exact wrap_in (zY hb h0 h1).1 (zY hb h0 h1).2
     have w2 : wrap64 (a.tmod b + b) = a % b := by rw [e2]; exact wrap_in (by have := Int.emod_nonneg a (show b ≠ 0 by omega); omega) (by have := Int.emod_lt_of_pos a (show 0 < b by omega); omega)
     have E1 := Lib.hid e1; have E2 := Lib.hid e2
     clear hz e1 e2 c1 c2 c3
     go_enter Tryz.func168, Tryz.ntmps168
     go_wp2
     go_ret2
     exact ⟨rfl, rfl⟩
theorem FI (a b : Int) (w : World) (hb : 1 < b) (hb2 : b < 9223372036854775808) (h0 : -9223372036854775808 <= a) (h1 : a < 9223372036854775808) :
 Calls Tryz.prog 169 #[.int .i64 a, .int .i64 b] w fun e w' => e = .returned (.tuple #[.int .i64 (a % b), .int .i64 0]) /\ w = w' := by
 obtain ⟨c1, c2, c3⟩ := @wM a b (by omega)
 have b0 : (b == 0) = false := by rw [beq_eq_false_iff_ne]; omega
 have b1 : (b == -1) = false := by rw [beq_eq_false_iff_ne]; omega
 have b2 : decide (b < 0) = false := decide_eq_false (by omega)
 by_cases ha : 0 <= a
 . have a2 : decide (a < 0) = false := decide_eq_false (by omega)
   clear c1 c2 c3
   by_cases hz : a % b = 0
   . have hz2 : (a % b != 0) = false := by rw [hz]; rfl
     have HZ := Lib.hid hz
     clear hz
     go_enter Tryz.func169, Tryz.ntmps169
     go_wp2
     go_ret2
     exact ⟨aX (by first | rfl | exact HZ.out.symm) rfl, rfl⟩
   . have hz2 : (a % b != 0) = true := by rw [bne_iff_ne]; exact hz
     have m2 : decide (a % b < 0) = false := decide_eq_false (by have := Int.emod_nonneg a (show b ≠ 0 by omega); omega)
     clear hz
     go_enter Tryz.func169, Tryz.ntmps169
     go_wp2
     go_ret2
     exact ⟨rfl, rfl⟩
 . have a2 : decide (a < 0) = true := decide_eq_true (by omega)
   by_cases hz : a.tmod b = 0
   . obtain ⟨e1, e2⟩ := c2 (Or.inl hz)
     have hz2 : (a.tmod b != 0) = false := by rw [hz]; rfl
     have E1 := Lib.hid e1; have E2 := Lib.hid e2
     clear hz e1 e2 c1 c2 c3
     go_enter Tryz.func169, Tryz.ntmps169
     go_wp2
     go_ret2
     exact ⟨aX E2.out rfl, rfl⟩
   . obtain ⟨e1, e2⟩ := c1 ⟨hz, by omega⟩
     have hz2 : (a.tmod b != 0) = true := by rw [bne_iff_ne]; exact hz
     have m2 : decide (a.tmod b < 0) = true := decide_eq_true ((c3 hz).2 (by omega))
     have w1 : wrap64 (a.tdiv b - 1) = a / b := by rw [e1]; exact wrap_in (zY hb h0 h1).1 (zY hb h0 h1).2
     have w2 : wrap64 (a.tmod b + b) = a % b := by rw [e2]; exact wrap_in (by have := Int.emod_nonneg a (show b ≠ 0 by omega); omega) (by have := Int.emod_lt_of_pos a (show 0 < b by omega); omega)
     have E1 := Lib.hid e1; have E2 := Lib.hid e2
     clear hz e1 e2 c1 c2 c3
     go_enter Tryz.func169, Tryz.ntmps169
     go_wp2
     go_ret2
     exact ⟨rfl, rfl⟩
theorem fH (y : Int) (w : World) (h0 : -10000000000000000 <= y) (h1 : y <= 10000000000000000) :
 Calls Tryz.prog 173 #[.int .i64 y] w fun e w' => e = .returned (.int .i64 0) /\ w = w' := by
 go_enter Tryz.func173, Tryz.ntmps173
 go_wp2
 go_ret
 exact ⟨rfl, rfl⟩
theorem jR (y : Int) (w : World) (h : y < -10000000000000000 \/ 10000000000000000 < y) :
 Calls Tryz.prog 173 #[.int .i64 y] w fun e w' => e = .returned (.int .i64 6) /\ w = w' := by
 rcases h with h | h
 . go_enter Tryz.func173, Tryz.ntmps173
   go_wp2
   go_ret
   exact ⟨rfl, rfl⟩
 . have h2 : ¬ y < -10000000000000000 := by omega
   go_enter Tryz.func173, Tryz.ntmps173
   go_wp2
   go_ret
   exact ⟨rfl, rfl⟩
end Un
end
section
open Go.RowKit
namespace Un
open Cal
def iK (w : World) : Prop := ∃ b o, w.cell? ⟨5, 0, none⟩ = some (.slice (some ⟨b, o, none⟩) 3 3) /\
 w.cell? ⟨b, o, none⟩ = some (.int .i64 4) /\ w.cell? ⟨b, o + 1, none⟩ = some (.int .i64 1) /\
 w.cell? ⟨b, o + 2, none⟩ = some (.int .i64 100) /\ w.cell? ⟨b, o + 3, none⟩ = some (.int .i64 (-1)) /\
 w.cell? ⟨b, o + 4, none⟩ = some (.int .i64 400) /\ w.cell? ⟨b, o + 5, none⟩ = some (.int .i64 1)
theorem iK.below {w w' : World} (h : iK w) (hb : Below w.heap.size w w') : iK w' := by
 obtain ⟨b, o, h0, h1, h2, h3, h4, h5, h6⟩ := h
 exact ⟨b, o, cell_later hb h0, cell_later hb h1, cell_later hb h2, cell_later hb h3, cell_later hb h4, cell_later hb h5, cell_later hb h6⟩
theorem ba {W w : World} (h : Below W.heap.size W w) (o : Obj) : Below W.heap.size W (w.alloc o) := h.alloc h.size o
theorem bt {W w w2 : World} (h : Below W.heap.size W w) (h2 : Below w.heap.size w w2) : Below W.heap.size W w2 := h.trans (h2.mono h.size)
theorem yL (y : Int) (w : World) (hs : iK w) (h0 : -30000000000000000 <= y) (h1 : y <= 30000000000000000) :
 Calls Tryz.prog 205 #[.int .i64 y] w fun e w' => e = .returned (.int .i64 (MX y)) /\ Below w.heap.size w w' := by
 obtain ⟨b, o, g0, g1, g2, g3, g4, g5, g6⟩ := hs
 have l0 := World.block_lt_of_cell? _ _ g0
 have l1 := World.block_lt_of_cell? _ _ g1
 go_enter Tryz.func205, Tryz.ntmps205
 go_wp2
 refine wp_loop_rounds 4 ?_
 rw [rounds_succ]
 go_wp2_with (go_at_call 168; refine (rZ _ _ _ (by omega) (by omega) (by omega) (by omega)).mono ?_; rintro e w' ⟨rfl, rfl⟩)
 rw [rounds_succ]
 go_wp2_with (go_at_call 168; refine (rZ _ _ _ (by omega) (by omega) (by omega) (by omega)).mono ?_; rintro e w' ⟨rfl, rfl⟩)
 rw [rounds_succ]
 go_wp2_with (go_at_call 168; refine (rZ _ _ _ (by omega) (by omega) (by omega) (by omega)).mono ?_; rintro e w' ⟨rfl, rfl⟩)
 rw [rounds_succ]
 go_wp2
 go_ret
 exact ⟨ri (by unfold MX; omega), ba (ba (ba (Below.refl _ _) _) _) _⟩
theorem aMW {y : Int} (h0 : -30000000000000000 <= y) (h1 : y <= 30000000000000000) : -30000000000000000 <= MX y /\ MX y <= 30000000000000000 := by
 unfold MX; omega
theorem oH {y : Int} (h0 : -25000000000000000 <= y) (h1 : y <= 25000000000000000) : -9200000000000000000 <= st y /\ st y <= 9200000000000000000 := by
 unfold st MX; omega
theorem BH (y : Int) (w : World) (hs : iK w) (h0 : -25000000000000000 <= y) (h1 : y <= 25000000000000000) :
 Calls Tryz.prog 172 #[.int .i64 y] w fun e w' => e = .returned (.int .i64 (st y)) /\ Below w.heap.size w w' := by
 have hb := aMW (y := y) (by omega) (by omega)
 have hb2 := oH h0 h1
 have e : 365 * y + MX y = st y := rfl
 have k1 : -9200000000000000000 <= 365 * y + MX y := by omega
 have k2 : 365 * y + MX y <= 9200000000000000000 := by omega
 have E := Lib.hid e; clear e hb2
 go_enter Tryz.func172, Tryz.ntmps172
 go_wp2_with (go_at_call 205; refine (yL _ _ hs (by omega) (by omega)).mono ?_; rintro e w' ⟨rfl, hb1⟩)
 go_ret
 exact ⟨ri E.out, hb1⟩
theorem qK (y : Int) (w : World) (hs : iK w) (h0 : -10000000000000000 <= y) (h1 : y <= 10000000000000000) :
 Calls Tryz.prog 174 #[.int .i64 y] w fun e w' => e = .returned (.tuple #[.int .i64 (st y), .int .i64 0]) /\ Below w.heap.size w w' := by
 go_enter Tryz.func174, Tryz.ntmps174
 go_wp2_with (first | (go_at_call 173; refine (fH _ _ (by omega) (by omega)).mono ?_; rintro e w' ⟨rfl, rfl⟩) | (go_at_call 172; refine (BH _ _ hs (by omega) (by omega)).mono ?_; rintro e w' ⟨rfl, hb1⟩))
 go_ret2
 exact ⟨rfl, hb1⟩
theorem LH (y : Int) (w : World) (h : y < -10000000000000000 \/ 10000000000000000 < y) :
 Calls Tryz.prog 174 #[.int .i64 y] w fun e w' => e = .returned (.tuple #[.int .i64 0, .int .i64 6]) /\ w = w' := by
 have H := Lib.hid h; clear h
 go_enter Tryz.func174, Tryz.ntmps174
 go_wp2_with (go_at_call 173; refine (jR _ _ H.out).mono ?_; rintro e w' ⟨rfl, rfl⟩)
 go_ret2
 exact ⟨rfl, rfl⟩
theorem UC (y : Int) (w : World) (hs : iK w) (h0 : -10000000000000000 <= y) (h1 : y <= 10000000000000000) :
 Calls Tryz.prog 175 #[.int .i64 y] w fun e w' => e = .returned (.tuple #[.int .i64 (st (y + 1) - 1), .int .i64 0]) /\ Below w.heap.size w w' := by
 have hb2 := oH (y := y + 1) (by omega) (by omega)
 obtain ⟨k1, k2⟩ := hb2
 go_enter Tryz.func175, Tryz.ntmps175
 go_wp2_with (first | (go_at_call 173; refine (fH _ _ (by omega) (by omega)).mono ?_; rintro e w' ⟨rfl, rfl⟩) | (go_at_call 172; refine (BH _ _ hs (by omega) (by omega)).mono ?_; rintro e w' ⟨rfl, hb1⟩))
 go_ret2
 exact ⟨rfl, hb1⟩
theorem UD (y : Int) (w : World) (h : y < -10000000000000000 \/ 10000000000000000 < y) :
 Calls Tryz.prog 175 #[.int .i64 y] w fun e w' => e = .returned (.tuple #[.int .i64 0, .int .i64 6]) /\ w = w' := by
 have H := Lib.hid h; clear h
 go_enter Tryz.func175, Tryz.ntmps175
 go_wp2_with (go_at_call 173; refine (jR _ _ H.out).mono ?_; rintro e w' ⟨rfl, rfl⟩)
 go_ret2
 exact ⟨rfl, rfl⟩
theorem PL (y : Int) (w : World) (hs : iK w) (h0 : -10000000000000000 <= y) (h1 : y <= 10000000000000000) :
 Calls Tryz.prog 201 #[.int .i64 y] w fun e w' => e = .returned (.tuple #[.bool (leap y), .int .i64 0]) /\ Below w.heap.size w w' := by
 have e : decide (MX y < MX (y + 1)) = leap y := by
  rw [YO]; unfold lp
  cases leap y
  . exact decide_eq_false (by simp)
  . exact decide_eq_true (by simp; omega)
 have E := Lib.hid e; clear e
 go_enter Tryz.func201, Tryz.ntmps201
 go_wp2_with fail
 refine (fH _ _ (by omega) (by omega)).mono ?_; rintro e w' ⟨rfl, rfl⟩
 go_wp2_with fail
 refine (yL _ _ hs (by omega) (by omega)).mono ?_; rintro e w1 ⟨rfl, hb1⟩
 go_wp2_with fail
 refine (yL _ _ (hs.below hb1) (by omega) (by omega)).mono ?_; rintro e w2 ⟨rfl, hb2⟩
 go_wp2
 go_ret2
 exact ⟨bP E.out rfl, bt hb1 hb2⟩
end Un
end
section
open Go.RowKit
namespace Un
open Cal
theorem vi {k : IntKind} {a b : Int} (h : a = b) : Value.int k a = Value.int k b := by rw [h]
theorem iK.drew {w : World} (h : iK w) : iK w.drew := h
theorem ZV (g : Nat) (cb : Array Value) (n k : Nat) (p : Int -> Bool) (w : World) (eg : ∀ args w, (callFunc g args).run Tryz.prog w = .ok (.enter g args) w) (hn : n <= 4611686018427387904) (hk : k <= n)
 (hlo : ∀ i : Nat, i < k -> p i = false) (hhi : ∀ i : Nat, k <= i -> i < n -> p i = true)
 (hf : ∀ (i : Nat) (W : World), i < n -> Below w.heap.size w W -> Calls Tryz.prog g (#[.int .i64 i] ++ cb) W fun e w' => e = .returned (.bool (p i)) /\ Below W.heap.size W w') :
 Calls Tryz.prog 170 #[.int .i64 n, .func (.func g) #[] cb] w fun e w' => e = .returned (.int .i64 k) /\ Below w.heap.size w w' := by
 have HF := Lib.hid hf
 have PD := Lib.hid hlo; have HHI := Lib.hid hhi
 clear hf hlo hhi
 go_enter Tryz.func170, Tryz.ntmps170
 go_wp2
 go_loopw [5, 6] (fun i j wr => ∃ lo hi : Nat, lo <= k /\ k <= hi /\ hi <= n /\ i = .int .i64 (lo : Int) /\ j = .int .i64 (hi : Int) /\ Below w.heap.size w wr) (fun i j _ => (intOf j - intOf i).toNat)
 case atStart => exact ⟨0, n, by omega, by omega, by omega, rfl, rfl, Below.refl _ _⟩
 case round =>
  obtain ⟨lo, hi, h1, h2, h3, rfl, rfl, hb⟩ := hrel
  have HB := Lib.hid hb; clear hb
  by_cases hlt : lo < hi
  . obtain ⟨m, hm⟩ : ∃ m : Nat, m = (lo + hi) / 2 := ⟨_, rfl⟩
    by_cases hmk : m < k
    . have HP := Lib.hid (PD.out m hmk)
      go_wp2_with fail
      rw [show ((lo : Int) + (hi : Int)) / 2 = (m : Int) from by omega]
      refine (HF.out m _ (by omega) HB.out).mono ?_; rintro e w' ⟨rfl, hb1⟩
      rw [HP.out]
      have HB1 := Lib.hid (bt HB.out hb1); clear hb1
      go_wp2
      go_roundw
      case rel => exact ⟨m + 1, hi, by omega, by omega, by omega, vi (by omega), rfl, HB1.out⟩
      case measure => simp [intOf]; omega
    . have HP := Lib.hid (HHI.out m (by omega) (by omega))
      go_wp2_with fail
      rw [show ((lo : Int) + (hi : Int)) / 2 = (m : Int) from by omega]
      refine (HF.out m _ (by omega) HB.out).mono ?_; rintro e w' ⟨rfl, hb1⟩
      rw [HP.out]
      have HB1 := Lib.hid (bt HB.out hb1); clear hb1
      go_wp2
      go_roundw
      case rel => exact ⟨lo, m, by omega, by omega, by omega, rfl, vi (by omega), HB1.out⟩
      case measure => simp [intOf]; omega
  . have e : lo = k := by omega
    subst e
    go_wp2
    go_ret
    exact ⟨rfl, HB.out⟩
theorem UE (i r : Int) (a : Addr) (w : World) (hs : iK w) (hc : w.cell? a = some (.int .i64 r)) (h0 : -1000 <= i) (h1 : i <= 1000) :
 Calls Tryz.prog 171 #[.int .i64 i, .pointer (some a)] w fun e w' => e = .returned (.bool (decide (r < st (i + 1)))) /\ Below w.heap.size w w' := by
 have hw : IntKind.i64.wrap (i + 1) = i + 1 := by rw [IntKind.wrap_i64]; omega
 have hn := World.block_lt_of_cell? _ _ hc
 go_enter Tryz.func171, Tryz.ntmps171
 go_wp2
 go_region_held3 (fun w' => w'.cell? a = some (.int .i64 r) /\ iK w' /\ Below w.heap.size w w') (first | exact ⟨hc, hs.drew, (Below.refl _ _).drew⟩ | exact ⟨cell_later hb1 hc, hs.drew.below hb1, bt (Below.refl _ _).drew hb1⟩) ((first | (go_at_call 172; refine (BH _ _ hs.drew (by omega) (by omega)).mono ?_; rintro e w' ⟨rfl, hb1⟩)))
 rename_i hh
 have HB := Lib.hid hh.2.2
 clear hh hb1
 go_wp2
 go_ret
 exact ⟨rfl, HB.out⟩
theorem U5 (q z : Int) : st (400 * q + z) = 146097 * q + st z := by unfold st MX; omega
theorem aCB (d : Int) : dU d = 400 * (d / 146097) + dU (d % 146097) := by
 obtain ⟨h1, h2⟩ := iE (d % 146097)
 refine Y9 ?_ ?_
 . rw [U5]; omega
 . rw [show 400 * (d / 146097) + dU (d % 146097) + 1 = 400 * (d / 146097) + (dU (d % 146097) + 1) by omega, U5]; omega
theorem aCA {r : Int} (h0 : 0 <= r) (h1 : r < 146097) : 0 <= dU r /\ dU r < 400 := by
 obtain ⟨a, b⟩ := iE r
 have z0 : st 0 = 0 := by decide
 have z1 : st 400 = 146097 := by decide
 constructor
 . by_cases c : 0 <= dU r
   . exact c
   . have := nG (a := dU r + 1) (b := 0) (by omega); omega
 . by_cases c : dU r < 400
   . exact c
   . have := nG (a := 400) (b := dU r) (by omega); omega
def mZ (d : Int) : Int × Int := if -10000000000000000 <= dU d /\ dU d <= 10000000000000000 then (dU d, 0) else (0, 6)
theorem xK (d : Int) (w : World) (hs : iK w) (h0 : -9223372036854775808 <= d) (h1 : d < 9223372036854775808) :
 Calls Tryz.prog 140 #[.int .i64 d] w fun e w' => e = .returned (.tuple #[.int .i64 (mZ d).1, .int .i64 (mZ d).2]) /\ Below w.heap.size w w' := by
 have hsm := @aCA (d % 146097) (by omega) (by omega)
 obtain ⟨s1, s2⟩ := iE (d % 146097)
 have aMj := aCB d
 obtain ⟨k, hk⟩ : ∃ k : Nat, (k : Int) = dU (d % 146097) := ⟨(dU (d % 146097)).toNat, by omega⟩
 rw [<- hk] at hsm s1 s2 aMj
 have hlo : ∀ i : Nat, i < k -> decide (d % 146097 < st ((i : Int) + 1)) = false := fun i hi => decide_eq_false (by have := nG (a := (i : Int) + 1) (b := k) (by omega); omega)
 have hhi : ∀ i : Nat, k <= i -> i < 400 -> decide (d % 146097 < st ((i : Int) + 1)) = true := fun i hi _ => decide_eq_true (by have := nG (a := (k : Int) + 1) (b := (i : Int) + 1) (by omega); omega)
 have hk4 : k <= 400 := by omega
 have q0 : -63131877573220 <= d / 146097 := by omega
 have q1 : d / 146097 <= 63131877573220 := by omega
 have k0 : (0 : Int) <= (k : Int) := by omega
 have k1 : (k : Int) <= 400 := by omega
 have hsz : ∀ o W, Below (w.alloc o).heap.size (w.alloc o) W -> Below w.heap.size w W := fun o W h => bt (ba (Below.refl _ _) o) h
 have hse : ∀ W, Below (w.alloc (.cells #[.int .i64 (d % 146097)] 2)).heap.size (w.alloc (.cells #[.int .i64 (d % 146097)] 2)) W -> W.cell? ⟨w.heap.size, 0, none⟩ = some (.int .i64 (d % 146097)) := fun W h =>
  cell_later h (by rw [World.cell?_alloc_new]; rfl)
 have HS := Lib.hid (fun W : World => fun hb : Below (w.alloc (.cells #[.int .i64 (d % 146097)] 2)).heap.size (w.alloc (.cells #[.int .i64 (d % 146097)] 2)) W => ZV 171 #[.pointer (some ⟨w.heap.size, 0, none⟩)] 400 k (fun i => decide (d % 146097 < st (i + 1))) W (fun args w => by kernel_rfl) (by omega) hk4 hlo hhi (fun i W2 hi hb2 => UE i (d % 146097) _ W2 ((hs.below (hsz _ _ hb)).below hb2) (hse W2 (bt hb hb2)) (by omega) (by omega)))
 have hres : mZ d = if -10000000000000000 <= 400 * (d / 146097) + (k : Int) /\ 400 * (d / 146097) + (k : Int) <= 10000000000000000 then (400 * (d / 146097) + (k : Int), 0) else (0, 6) := by
  unfold mZ; rw [aMj]
 have aP4 := Lib.hid hres
 have HSZ := Lib.hid hsz
 clear hres hlo hhi hsm s1 s2 aMj hk hse hsz
 by_cases c : -10000000000000000 <= 400 * (d / 146097) + (k : Int) /\ 400 * (d / 146097) + (k : Int) <= 10000000000000000
 . have hr := aP4.out
   rw [if_pos c] at hr
   have HR := Lib.hid hr
   obtain ⟨c0, c1⟩ := c
   clear hr
   go_enter Tryz.func140, Tryz.ntmps140
   go_wp2_with (first
    | (go_at_call 168; refine (rZ _ _ _ (by omega) (by omega) (by omega) (by omega)).mono ?_; rintro e w' ⟨rfl, rfl⟩)
    | (go_at_call 169; refine (FI _ _ _ (by omega) (by omega) (by omega) (by omega)).mono ?_; rintro e w' ⟨rfl, rfl⟩)
    | (go_at_call 173; refine (fH _ _ (by omega) (by omega)).mono ?_; rintro e w' ⟨rfl, rfl⟩)
    | (go_at_call 170; refine (HS.out _ (Below.refl _ _)).mono ?_; rintro e w' ⟨rfl, hb1⟩))
   go_ret2
   exact ⟨aX (by rw [HR.out]) (by rw [HR.out]), HSZ.out _ _ hb1⟩
 . have hr := aP4.out
   rw [if_neg c] at hr
   have HR := Lib.hid hr
   have HC : Hid (400 * (d / 146097) + (k : Int) < -10000000000000000 \/ 10000000000000000 < 400 * (d / 146097) + (k : Int)) := Lib.hid (by omega)
   clear hr c
   go_enter Tryz.func140, Tryz.ntmps140
   go_wp2_with (first
    | (go_at_call 168; refine (rZ _ _ _ (by omega) (by omega) (by omega) (by omega)).mono ?_; rintro e w' ⟨rfl, rfl⟩)
    | (go_at_call 169; refine (FI _ _ _ (by omega) (by omega) (by omega) (by omega)).mono ?_; rintro e w' ⟨rfl, rfl⟩)
    | (go_at_call 173; refine (jR _ _ HC.out).mono ?_; rintro e w' ⟨rfl, rfl⟩)
    | (go_at_call 170; refine (HS.out _ (Below.refl _ _)).mono ?_; rintro e w' ⟨rfl, hb1⟩))
   go_ret2
   exact ⟨aX (by rw [HR.out]) (by rw [HR.out]), HSZ.out _ _ hb1⟩
end Un
end
section
open Go.RowKit
namespace Un
open Cal
def ml (i : Nat) : Int := if i = 1 then 28 else if i = 3 \/ i = 5 \/ i = 8 \/ i = 10 then 30 else 31
def wU (w : World) : Prop := ∀ i : Nat, i < 12 -> w.cell? ⟨2, i, none⟩ = some (.int .i64 (ml i))
theorem wU.below {w w' : World} (h : wU w) (hb : Below w.heap.size w w') : wU w' := fun i hi => cell_later hb (h i hi)
structure eU (w : World) : Prop where
 steps : iK w
 lens : wU w
theorem eU.below {w w' : World} (h : eU w) (hb : Below w.heap.size w w') : eU w' := ⟨h.steps.below hb, h.lens.below hb⟩
theorem aGA {y : Int} {n : Nat} (h : n < 12) (hl : leap y = false \/ n ≠ 1) : ml n = len y ((n : Int) + 1) := by
 unfold ml len lp
 rcases hl with hl | hl
 . rw [hl]
   simp only [Bool.false_eq_true, if_false]
   (repeat' split) <;> omega
 . (repeat' split) <;> omega
theorem oQ (y m : Int) (w : World) (hs : eU w) (h0 : -10000000000000000 <= y) (h1 : y <= 10000000000000000) (m0 : 1 <= m) (m1 : m <= 12) :
 Calls Tryz.prog 163 #[.int .i64 y, .int .i64 m] w fun e w' => e = .returned (.int .i64 (len y m)) /\ Below w.heap.size w w' := by
 obtain ⟨n, rfl⟩ : ∃ n : Nat, m = (n : Int) + 1 := ⟨(m - 1).toNat, by omega⟩
 have hn : n < 12 := by omega
 have HC := Lib.hid (fun (W : World) (hb : Below w.heap.size w W) => (hs.below hb).lens n hn)
 have HL := Lib.hid (PL y w hs.steps h0 h1)
 have i0 : (0 : Int) <= (n : Int) := by omega
 have i1 : (n : Int) < 12 := by omega
 by_cases hl : leap y = true
 . rw [hl] at HL
   by_cases h2 : n = 1
   . subst h2
     have e : 29 = len y ((1 : Nat) + 1) := by unfold len lp; rw [hl]; rfl
     have E := Lib.hid e
     clear e hl
     go_enter Tryz.func163, Tryz.ntmps163
     go_wp2_with (go_at_call 201; refine HL.out.mono ?_; rintro e w' ⟨rfl, hb1⟩)
     go_ret
     exact ⟨ri E.out, hb1⟩
   . have E := Lib.hid (aGA (y := y) hn (Or.inr h2))
     have t : ((n : Int) + 1 == 2) = false := by rw [beq_eq_false_iff_ne]; omega
     clear h2 hl
     go_enter Tryz.func163, Tryz.ntmps163
     go_wp2_with fail
     refine HL.out.mono ?_; rintro e w' ⟨rfl, hb1⟩
     have hc := HC.out _ hb1
     go_wp2
     go_ret
     exact ⟨ri E.out, hb1⟩
 . have hl2 : leap y = false := by cases h : leap y; rfl; exact absurd h hl
   rw [hl2] at HL
   have E := Lib.hid (aGA (y := y) hn (Or.inl hl2))
   clear hl hl2
   go_enter Tryz.func163, Tryz.ntmps163
   go_wp2_with fail
   refine HL.out.mono ?_; rintro e w' ⟨rfl, hb1⟩
   have hc := HC.out _ hb1
   go_wp2
   go_ret
   exact ⟨ri E.out, hb1⟩
def rC (y m : Int) : Int := if -10000000000000000 <= y /\ y <= 10000000000000000 then (if 1 <= m /\ m <= 12 then 0 else 7) else 6
theorem iP (y m : Int) (w : World) :
 Calls Tryz.prog 162 #[.int .i64 y, .int .i64 m] w fun e w' => e = .returned (.int .i64 (rC y m)) /\ w = w' := by
 by_cases c : -10000000000000000 <= y /\ y <= 10000000000000000
 . by_cases c2 : 1 <= m /\ m <= 12
   . have E : Hid (0 = rC y m) := Lib.hid (by unfold rC; rw [if_pos c, if_pos c2])
     obtain ⟨a, b⟩ := c
     obtain ⟨p, q⟩ := c2
     go_enter Tryz.func162, Tryz.ntmps162
     go_wp2_with (go_at_call 173; refine (fH _ _ (by omega) (by omega)).mono ?_; rintro e w' ⟨rfl, rfl⟩)
     go_ret
     exact ⟨ri E.out, rfl⟩
   . have E : Hid (7 = rC y m) := Lib.hid (by unfold rC; rw [if_pos c, if_neg c2])
     obtain ⟨a, b⟩ := c
     by_cases p : m < 1
     . clear c2
       go_enter Tryz.func162, Tryz.ntmps162
       go_wp2_with (go_at_call 173; refine (fH _ _ (by omega) (by omega)).mono ?_; rintro e w' ⟨rfl, rfl⟩)
       go_ret
       exact ⟨ri E.out, rfl⟩
     . have q : 12 < m := by omega
       clear c2
       go_enter Tryz.func162, Tryz.ntmps162
       go_wp2_with (go_at_call 173; refine (fH _ _ (by omega) (by omega)).mono ?_; rintro e w' ⟨rfl, rfl⟩)
       go_ret
       exact ⟨ri E.out, rfl⟩
 . have E : Hid (6 = rC y m) := Lib.hid (by unfold rC; rw [if_neg c])
   have C : Hid (y < -10000000000000000 \/ 10000000000000000 < y) := Lib.hid (by omega)
   clear c
   go_enter Tryz.func162, Tryz.ntmps162
   go_wp2_with (go_at_call 173; refine (jR _ _ C.out).mono ?_; rintro e w' ⟨rfl, rfl⟩)
   go_ret
   exact ⟨ri E.out, rfl⟩
theorem uU (y m : Int) (w : World) (h : rC y m ≠ 0) :
 Calls Tryz.prog 157 #[.int .i64 y, .int .i64 m] w fun e w' => e = .returned (.tuple #[.int .i64 0, .int .i64 (rC y m)]) /\ w = w' := by
 have t : (rC y m != 0) = true := by rw [bne_iff_ne]; exact h
 clear h
 go_enter Tryz.func157, Tryz.ntmps157
 go_wp2_with (go_at_call 162; refine (iP _ _ _).mono ?_; rintro e w' ⟨rfl, rfl⟩)
 go_ret2
 exact ⟨rfl, rfl⟩
theorem jG (y m : Int) (w : World) (hs : eU w) (h0 : -10000000000000000 <= y) (h1 : y <= 10000000000000000) (m0 : 1 <= m) (m1 : m <= 12) :
 Calls Tryz.prog 157 #[.int .i64 y, .int .i64 m] w fun e w' => e = .returned (.tuple #[.int .i64 (st y + dW y m), .int .i64 0]) /\ Below w.heap.size w w' := by
 obtain ⟨n, rfl⟩ : ∃ n : Nat, m = (n : Int) + 1 := ⟨(m - 1).toNat, by omega⟩
 have e : rC y ((n : Int) + 1) = 0 := by unfold rC; rw [if_pos ⟨h0, h1⟩, if_pos ⟨m0, m1⟩]
 have HM := iP y ((n : Int) + 1) w
 rw [e] at HM
 have HM := Lib.hid HM
 obtain ⟨b0, b1⟩ := oH (y := y) (by omega) (by omega)
 have HS := Lib.hid hs
 clear hs e
 go_enter Tryz.func157, Tryz.ntmps157
 go_wp2_with (first | (go_at_call 162; refine HM.out.mono ?_; rintro e w' ⟨rfl, rfl⟩) | (go_at_call 174; refine (qK _ _ HS.out.steps (by omega) (by omega)).mono ?_; rintro e w' ⟨rfl, hb1⟩))
 have HB := Lib.hid hb1; clear hb1
 go_loopw [7, 9, 23] (fun d i j wr => ∃ k : Nat, k <= n /\ d = .int .i64 (st y + dW y ((k : Int) + 1)) /\ j = .int .i64 (k : Int) /\ Below w.heap.size w wr) (fun _ _ j _ => n - (intOf j).toNat)
 case atStart => exact ⟨0, by omega, by rw [show ((0 : Nat) : Int) + 1 = 1 from rfl, FW, Int.add_zero], rfl, HB.out⟩
 case round =>
  obtain ⟨k, hk, rfl, rfl, hb⟩ := hrel
  have HB2 := Lib.hid hb; clear hb
  have cb := @sQ y ((k : Int) + 1) (by omega) (by omega)
  by_cases hlt : k < n
  . have hl := gI y ((k : Int) + 1)
    have hcs := dY y ((k : Int) + 1) (by omega) (by omega)
    have HCS := Lib.hid hcs; clear hcs
    go_wp2_with (go_at_call 163; refine (oQ _ _ _ (HS.out.below HB2.out) (by omega) (by omega) (by omega) (by omega)).mono ?_; rintro e w' ⟨rfl, hb3⟩)
    have HB3 := Lib.hid (bt HB2.out hb3); clear hb3
    go_roundw
    case rel => exact ⟨k + 1, by omega, vi (by rw [show ((k + 1 : Nat) : Int) + 1 = (k : Int) + 1 + 1 by omega, HCS.out]; omega), by go_num, HB3.out⟩
    case measure => simp [intOf]; omega
  . have e : k = n := by omega
    subst e
    go_wp2
    go_ret2
    exact ⟨rfl, HB2.out⟩
theorem QK (y m : Int) (w : World) (h : rC y m ≠ 0) :
 Calls Tryz.prog 159 #[.int .i64 y, .int .i64 m] w fun e w' => e = .returned (.tuple #[.int .i64 0, .int .i64 (rC y m)]) /\ w = w' := by
 have t : (rC y m != 0) = true := by rw [bne_iff_ne]; exact h
 have H := Lib.hid h
 clear h
 go_enter Tryz.func159, Tryz.ntmps159
 go_wp2_with (go_at_call 157; refine (uU _ _ _ H.out).mono ?_; rintro e w' ⟨rfl, rfl⟩)
 go_ret2
 exact ⟨rfl, rfl⟩
theorem zJ (y m : Int) (w : World) (hs : eU w) (h0 : -10000000000000000 <= y) (h1 : y <= 10000000000000000) (m0 : 1 <= m) (m1 : m <= 12) :
 Calls Tryz.prog 159 #[.int .i64 y, .int .i64 m] w fun e w' => e = .returned (.tuple #[.int .i64 (st y + dW y (m + 1) - 1), .int .i64 0]) /\ Below w.heap.size w w' := by
 obtain ⟨b0, b1⟩ := oH (y := y) (by omega) (by omega)
 have cb := @sQ y m (by omega) (by omega)
 have lb := gI y m
 have E : Hid (st y + dW y m + len y m - 1 = st y + dW y (m + 1) - 1) := Lib.hid (by rw [dY y m m0 m1]; omega)
 go_enter Tryz.func159, Tryz.ntmps159
 go_wp2_with fail
 refine (jG _ _ _ hs h0 h1 m0 m1).mono ?_; rintro e w1 ⟨rfl, hb1⟩
 go_wp2_with fail
 refine (oQ _ _ _ (hs.below hb1) h0 h1 m0 m1).mono ?_; rintro e w2 ⟨rfl, hb2⟩
 go_wp2
 go_ret2
 exact ⟨aX E.out rfl, bt hb1 hb2⟩
theorem fQ {a b c d e f : Int} {k k' k2 : IntKind} (h : a = b) (h2 : c = d) (h3 : e = f) : Ending.returned (.tuple #[.int k a, .int k' c, .int k2 e]) = .returned (.tuple #[.int k b, .int k' d, .int k2 f]) := by rw [h, h2, h3]
def dN (d : Int) : Int × Int × Int := if -10000000000000000 <= dU d /\ dU d <= 10000000000000000 then (dU d, LW (dU d) (d - st (dU d)), 0) else (0, 0, 6)
theorem rU (d : Int) (w : World) (hs : eU w) (h0 : -9223372036854775808 <= d) (h1 : d < 9223372036854775808) :
 Calls Tryz.prog 143 #[.int .i64 d] w fun e w' => e = .returned (.tuple #[.int .i64 (dN d).1, .int .i64 (dN d).2.1, .int .i64 (dN d).2.2]) /\ Below w.heap.size w w' := by
 have HY := xK d w hs.steps h0 h1
 by_cases c : -10000000000000000 <= dU d /\ dU d <= 10000000000000000
 . rw [show mZ d = (dU d, 0) by unfold mZ; rw [if_pos c]] at HY
   have HR : Hid (dN d = (dU d, LW (dU d) (d - st (dU d)), 0)) := Lib.hid (by unfold dN; rw [if_pos c])
   obtain ⟨s1, s2⟩ := iE d
   rw [st_succ] at s2
   have hms := @oN (dU d) (d - st (dU d)) (by omega) (by omega)
   obtain ⟨c0, c1⟩ := c
   generalize dU d = y at *
   generalize hm : LW y (d - st y) = m at *
   have HMU := Lib.hid hm
   obtain ⟨m0, m1, g0, g1⟩ := hms
   have lp1 := OC y
   have HY := Lib.hid HY
   have HS := Lib.hid hs
   clear hs hm
   have sb := oH (y := y) (by omega) (by omega)
   obtain ⟨sb0, sb1⟩ := sb
   have k0 : 0 <= d - st y := by omega
   have k1 : d - st y <= 366 := by omega
   have G0 := Lib.hid g0; have G1 := Lib.hid g1
   clear g0 g1 s1 s2
   go_enter Tryz.func143, Tryz.ntmps143
   go_wp2_with fail
   refine HY.out.mono ?_; rintro e w1 ⟨rfl, hb1⟩
   go_wp2_with fail
   refine (qK _ _ (HS.out.below hb1).steps (by omega) (by omega)).mono ?_; rintro e w2 ⟨rfl, hb2⟩
   have HB := Lib.hid (bt hb1 hb2); clear hb1 hb2
   go_wp2_with fail
   go_loopw [2, 7, 26] (fun yy l j wr => ∃ k : Nat, (k : Int) + 1 <= m /\ yy = .int .i64 y /\ l = .int .i64 (d - st y - dW y ((k : Int) + 1)) /\ j = .int .i64 (k : Int) /\ Below w.heap.size w wr) (fun _ _ j _ => 12 - (intOf j).toNat)
   case atStart => exact ⟨0, by omega, rfl, by rw [show ((0 : Nat) : Int) + 1 = 1 from rfl, FW, Int.sub_zero], rfl, HB.out⟩
   case round =>
    obtain ⟨k, hk, rfl, rfl, rfl, hb⟩ := hrel
    have HB2 := Lib.hid hb; clear hb h0 h1 sb0 sb1
    have cb := @sQ y ((k : Int) + 1) (by omega) (by omega)
    have hl := gI y ((k : Int) + 1)
    have HCS := Lib.hid (dY y ((k : Int) + 1) (by omega) (by omega))
    by_cases hlt : (k : Int) + 1 < m
    . have t : ¬ d - st y - dW y ((k : Int) + 1) < len y ((k : Int) + 1) := by
       have := HCS.out; have := G0.out
       by_cases q : (k : Int) + 1 + 1 = m
       . rw [<- q] at this; omega
       . have := @X4 y ((k : Int) + 1) m (by omega) (by omega) (by omega)
         omega
      go_wp2_with (go_at_call 163; refine (oQ _ _ _ (HS.out.below HB2.out) (by omega) (by omega) (by omega) (by omega)).mono ?_; rintro e w' ⟨rfl, hb3⟩)
      have HB3 := Lib.hid (bt HB2.out hb3); clear hb3
      go_roundw
      case rel => exact ⟨k + 1, by omega, rfl, vi (by rw [show ((k + 1 : Nat) : Int) + 1 = (k : Int) + 1 + 1 by omega, HCS.out]; omega), by go_num, HB3.out⟩
      case measure => simp [intOf]; omega
    . have e : m = (k : Int) + 1 := by omega
      subst e
      have t : d - st y - dW y ((k : Int) + 1) < len y ((k : Int) + 1) := by have := HCS.out; have := G1.out; omega
      go_wp2_with (go_at_call 163; refine (oQ _ _ _ (HS.out.below HB2.out) (by omega) (by omega) (by omega) (by omega)).mono ?_; rintro e w' ⟨rfl, hb3⟩)
      go_ret3
      exact ⟨fQ (by rw [HR.out]) (by rw [HR.out]) (by rw [HR.out]), bt HB2.out hb3⟩
 . rw [show mZ d = (0, 6) by unfold mZ; rw [if_neg c]] at HY
   have HR : Hid (dN d = (0, 0, 6)) := Lib.hid (by unfold dN; rw [if_neg c])
   have HY := Lib.hid HY
   clear c hs
   go_enter Tryz.func143, Tryz.ntmps143
   go_wp2_with (go_at_call 140; refine HY.out.mono ?_; rintro e w1 ⟨rfl, hb1⟩)
   go_ret3
   exact ⟨fQ (by rw [HR.out]) (by rw [HR.out]) (by rw [HR.out]), hb1⟩
end Un
end
section
open Go.RowKit Go.Lib
namespace Bk
open Un (ba bt ri rb)
structure Rw (p : Nat) (vs : List Value) (w W : World) : Prop where
 cell : ∀ i v, vs[i]? = some v -> W.cell? ⟨p, i, none⟩ = some v
 free : ∀ i, i < vs.length -> W.frozen? ⟨p, i, none⟩ = false
 new : w.heap.size <= p
 lt : p < W.heap.size
 below : Below w.heap.size w W
theorem Rw.later {p : Nat} {vs : List Value} {w W W2 : World} (h : Rw p vs w W) (hb : Below W.heap.size W W2) : Rw p vs w W2 :=
 ⟨fun i v hv => (hb.cell (p := ⟨p, i, none⟩) h.lt).trans (h.cell i v hv), fun i hi => (hb.frozen (p := ⟨p, i, none⟩) h.lt).trans (h.free i hi), h.new, by have := h.lt; have := hb.size; omega, bt h.below hb⟩
theorem Rw.range {p : Nat} {vs : List Value} {w W : World} (h : Rw p vs w W) : W.rangeAt p 0 vs := fun j v hv => by rw [Nat.zero_add]; exact h.cell j v hv
theorem Rw.there {p : Nat} {vs : List Value} {w W : World} (h : Rw p vs w W) : W.there p 0 vs.length := fun j hj => by
 rw [Nat.zero_add, h.cell j _ (List.getElem?_eq_getElem hj)]; exact ⟨rfl, h.free j hj⟩
theorem Rw.fresh {w W : World} (hb : Below w.heap.size w W) (vs : List Value) (t : TypeId) : Rw W.heap.size vs w (W.alloc (.cells vs.toArray t)) :=
 ⟨fun i v hv => by rw [World.cell?_alloc_new]; simpa using hv, fun i hi => by simp, hb.size, by show W.heap.size < (W.heap.push _).size; simp, ba hb _⟩
theorem tC (p : Nat) (b : Addr) : ∀ (vs : List Value) (k : Nat) (W : World), (W.setCells p k vs).frozen? b = W.frozen? b
 | [], _, _ => rfl
 | u :: r, k, W => by unfold World.setCells; rw [tC p b r, World.frozen?_setCell]
theorem tZ {p : Nat} {w : World} (hp : w.heap.size <= p) : ∀ (vs : List Value) (k : Nat) (W : World), Below w.heap.size w W -> Below w.heap.size w (W.setCells p k vs)
 | [], _, _, h => h
 | u :: r, k, W, h => by unfold World.setCells; exact tZ hp r _ _ (h.setCell hp _)
theorem setCells_size {p : Nat} : ∀ (vs : List Value) (k : Nat) (W : World), (W.setCells p k vs).heap.size = W.heap.size
 | [], _, _ => rfl
 | u :: r, k, W => by unfold World.setCells; rw [setCells_size r]; simp [World.setCell]
theorem wX {p : Nat} : ∀ (vs : List Value) (k : Nat) (W : World), (∀ i, k <= i -> i < k + vs.length -> (W.cell? ⟨p, i, none⟩).isSome = true) -> ∀ j v, vs[j]? = some v -> (W.setCells p k vs).cell? ⟨p, k + j, none⟩ = some v
 | [], k, W, _, j, v, hv => by simp at hv
 | u :: r, k, W, hs, j, v, hv => by
  unfold World.setCells
  cases j with
  | zero =>
   simp at hv; subst hv
   rw [World.cell?_setCells_out p r (k + 1) _ ⟨p, k + 0, none⟩ (fun _ _ => .inl (by show k + 0 < k + 1; omega))]
   obtain ⟨x, hx⟩ := Option.isSome_iff_exists.1 (hs k (Nat.le_refl _) (by simp))
   exact World.cell?_setCell_same _ _ _ hx
  | succ j =>
   rw [show k + (j + 1) = k + 1 + j by omega]
   refine wX r (k + 1) _ (fun i h1 h2 => ?_) j v (by simpa using hv)
   rw [World.cell?_setCell_other _ _ _ _ (by intro e; injection e with _ e2; omega)]
   exact hs i (by omega) (by simp; omega)
theorem Rw.cO {p : Nat} {vs : List Value} {w W : World} (h : Rw p vs w W) (us : List Value) (hl : us.length = vs.length) : Rw p us w (W.setCells p 0 us) := by
 refine ⟨fun i v hv => ?_, fun i hi => by rw [tC]; exact h.free i (by omega), h.new, by rw [setCells_size]; exact h.lt, tZ h.new _ _ _ h.below⟩
 have := wX us 0 W (fun j _ hj => by
  rw [h.cell j _ (List.getElem?_eq_getElem (by omega))]; rfl) i v hv
 rw [Nat.zero_add] at this
 exact this
theorem Rw.set {p : Nat} {vs : List Value} {w W : World} (h : Rw p vs w W) (k : Nat) (hk : k < vs.length) (v : Value) : Rw p (vs.set k v) w (W.setCell ⟨p, k, none⟩ v) := by
 refine ⟨fun i u hu => ?_, fun i hi => by rw [World.frozen?_setCell]; exact h.free i (by simpa using hi), h.new, by show p < (W.heap.modify _ _).size; rw [Array.size_modify]; exact h.lt, h.below.setCell h.new _⟩
 by_cases c : k = i
 . subst c
   rw [List.getElem?_set_self hk] at hu
   cases hu
   exact World.cell?_setCell_same _ _ _ (h.cell k _ (List.getElem?_eq_getElem hk))
 . rw [List.getElem?_set_ne c] at hu
   rw [World.cell?_setCell_other _ _ _ _ (by intro e; injection e with e1 e2; exact c e2)]
   exact h.cell i u hu
theorem Rw.other {p q : Nat} {vs : List Value} {w W : World} (h : Rw p vs w W) (hne : q ≠ p) (hq : w.heap.size <= q) (k : Nat) (v : Value) : Rw p vs w (W.setCell ⟨q, k, none⟩ v) := by
 refine ⟨fun i u hu => ?_, fun i hi => by rw [World.frozen?_setCell]; exact h.free i hi, h.new, by show p < (W.heap.modify _ _).size; rw [Array.size_modify]; exact h.lt, h.below.setCell hq _⟩
 rw [World.cell?_setCell_other _ _ _ _ (by intro e; injection e with e1 e2; exact hne e1)]
 exact h.cell i u hu
theorem Rw.others {p q : Nat} {vs : List Value} {w W : World} (h : Rw p vs w W) (hne : q ≠ p) (hq : w.heap.size <= q) : ∀ (us : List Value) (k : Nat), Rw p vs w (W.setCells q k us) := by
 intro us
 induction us generalizing W with
 | nil => intro k; exact h
 | cons u r ih => intro k; unfold World.setCells; exact ih (h.other hne hq k u) (k + 1)
end Bk
end
section
open Go.Lib
namespace Bk
def aZ (s : ByteArray) (i : Nat) : Int := ((s.data.toList.getD i 0).toNat : Int)
theorem bY (s : ByteArray) (i : Nat) (h : i < s.size) : aZ s i = ((s[i]'h).toNat : Int) := by
 unfold aZ
 rw [List.getD_eq_getElem?_getD, List.getElem?_eq_getElem (by simpa using h)]
 rfl
theorem aMV (s : ByteArray) (i : Nat) : 0 <= aZ s i /\ aZ s i < 256 := by
 unfold aZ
 have := (s.data.toList.getD i 0).toNat_lt
 omega
def allB (q : Int -> Bool) (s : ByteArray) : Bool := s.data.toList.all fun b => q (b.toNat : Int)
theorem mG (q : Int -> Bool) (s : ByteArray) : allB q s = true ↔ ∀ i, i < s.size -> q (aZ s i) = true := by
 unfold allB
 rw [List.all_eq_true]
 constructor
 . intro h i hi
   rw [bY s i hi]
   exact h _ (by rw [ByteArray.getElem_eq_getElem_data]; exact Array.getElem_mem_toList ..)
 . intro h b hb
   obtain ⟨i, hi, rfl⟩ := List.getElem_of_mem hb
   have := h i (by simpa using hi)
   rw [bY s i (by simpa using hi)] at this
   exact this
theorem XH (q : Int -> Bool) (p : Nat -> Bool) (hp : ∀ x : Nat, x < 128 -> p x = !q x) (hh : ∀ x : Nat, 128 <= x -> p x = true) (hq : ∀ x : Int, q x = true -> x < 128) (s : ByteArray) :
 ∀ (g pos : Nat), s.size <= pos + g -> (idxFuncFrom p true s g pos < 0 ↔ ∀ i, pos <= i -> i < s.size -> q (aZ s i) = true)
 | 0, pos, hg => by
  simp only [idxFuncFrom]
  exact ⟨fun _ i h1 h2 => by omega, fun _ => by decide⟩
 | g + 1, pos, hg => by
  unfold idxFuncFrom
  by_cases hlt : pos < s.size
  . rw [if_pos hlt]
    by_cases ha : (s[pos]'hlt).toNat < 128
    . rw [decode_ascii s pos hlt ha]
      dsimp only
      rw [hp _ ha]
      cases hqb : q ((s[pos]'hlt).toNat : Int)
      . rw [Bool.not_false, if_pos rfl]
        constructor
        . intro h; omega
        . intro h
          have := h pos (Nat.le_refl _) hlt
          rw [bY s pos hlt, hqb] at this
          cases this
      . rw [Bool.not_true, if_neg (by decide), XH q p hp hh hq s g (pos + 1) (by omega)]
        constructor
        . intro h i h1 h2
          by_cases e : i = pos
          . subst e; rw [bY s i h2]; exact hqb
          . exact h i (by omega) h2
        . intro h i h1 h2; exact h i (by omega) h2
    . obtain ⟨h1, h2⟩ := decode_high s pos hlt (by omega)
      rw [hh _ h1, if_pos rfl]
      constructor
      . intro h; omega
      . intro h
        have := hq _ (h pos (Nat.le_refl _) hlt)
        rw [bY s pos hlt] at this
        omega
  . rw [if_neg hlt]
    exact ⟨fun _ i h1 h2 => by omega, fun _ => by decide⟩
theorem aGU (q : Int -> Bool) (p : Nat -> Bool) (hp : ∀ x : Nat, x < 128 -> p x = !q x) (hh : ∀ x : Nat, 128 <= x -> p x = true) (hq : ∀ x : Int, q x = true -> x < 128) (s : ByteArray) :
 decide (idxFunc p true s < 0) = allB q s := by
 have h := XH q p hp hh hq s s.size 0 (by omega)
 rw [Bool.eq_iff_iff, decide_eq_true_iff, mG]
 unfold idxFunc
 rw [h]
 exact ⟨fun h i hi => h i (Nat.zero_le _) hi, fun h i _ hi => h i hi⟩
def hasB (c : Int) (s : ByteArray) : Bool := s.data.toList.any fun b => decide ((b.toNat : Int) = c)
theorem J4 (c : Int) (s : ByteArray) : hasB c s = true ↔ ∃ i, i < s.size /\ aZ s i = c := by
 unfold hasB
 rw [List.any_eq_true]
 constructor
 . rintro ⟨b, hb, h⟩
   obtain ⟨i, hi, rfl⟩ := List.getElem_of_mem hb
   exact ⟨i, by simpa using hi, by rw [bY s i (by simpa using hi)]; exact of_decide_eq_true h⟩
 . rintro ⟨i, hi, h⟩
   rw [bY s i hi] at h
   exact ⟨_, by rw [ByteArray.getElem_eq_getElem_data]; exact Array.getElem_mem_toList .., decide_eq_true h⟩
theorem aAX {α : Type} (p : α -> Bool) : ∀ l : List α, l.dropWhile p = [] ↔ l.all p = true
 | [] => by simp
 | a :: l => by
  cases h : p a
  . simp [List.dropWhile_cons, h]
  . simp [List.dropWhile_cons, h, aAX p l]
theorem dw_head {α : Type} (p : α -> Bool) : ∀ {l : List α} {a : α} {t : List α}, l.dropWhile p = a :: t -> p a = false
 | [], a, t, h => by simp at h
 | b :: l, a, t, h => by
  cases hb : p b
  . simp [List.dropWhile_cons, hb] at h
    rw [<- h.1]; exact hb
  . simp [List.dropWhile_cons, hb] at h
    exact dw_head p h
theorem aCL (l : List UInt8) (c : UInt8) : (trimS l [c] = []) ↔ l.all (· == c) = true := by
 have e : (fun x => [c].contains x) = (fun x : UInt8 => x == c) := by funext x; exact contains_one c x
 have hr : (l.all (· == c) = true) ↔ l.reverse.dropWhile (fun x : UInt8 => x == c) = [] := by rw [aAX, List.all_reverse]
 rw [hr]
 unfold trimS trimLeftS trimRightS
 rw [e]
 constructor
 . intro h
   rw [aAX, List.all_reverse] at h
   cases hd : l.reverse.dropWhile (fun x => x == c) with
   | nil => rfl
   | cons a t =>
    rw [hd] at h
    have h1 := dw_head _ hd
    rw [List.all_cons, h1] at h
    cases h
 . intro h; rw [h]; rfl
end Bk
end
section
open Go.Lib
namespace Bk
def dec : List UInt8 -> Nat -> Nat
 | [], a => a
 | c :: r, a => dec r (10 * a + (c.toNat - 48))
def aHl (c : UInt8) : Bool := decide (48 <= c.toNat /\ c.toNat <= 57)
def dG (x : Int) : Bool := decide (48 <= x /\ x <= 57)
def dP (x : Int) : Bool := decide (48 <= x /\ x <= 57) || decide (x = 88)
theorem X3 : ∀ (l : List UInt8) (c : UInt8) (a : Nat), dec (l ++ [c]) a = 10 * dec l a + (c.toNat - 48)
 | [], c, a => rfl
 | x :: l, c, a => by simp only [List.cons_append, dec]; exact X3 l c _
theorem dec_lt : ∀ (l : List UInt8) (a k : Nat), l.all aHl = true -> a < 10 ^ k -> dec l a < 10 ^ (k + l.length)
 | [], a, k, _, h => by simpa [dec] using h
 | c :: l, a, k, hl, h => by
  simp only [List.all_cons, Bool.and_eq_true] at hl
  have hc : c.toNat <= 57 := (of_decide_eq_true hl.1).2
  have := dec_lt l (10 * a + (c.toNat - 48)) (k + 1) hl.2 (by rw [Nat.pow_succ]; omega)
  simp only [dec, List.length_cons]
  rw [show k + (l.length + 1) = k + 1 + l.length by omega]
  exact this
theorem xG : ∀ (l : List UInt8) (a k : Nat), l.all aHl = true -> a < 10 ^ k -> k + l.length <= 17 -> parseUintM 18446744073709551615 a l = .ok (dec l a)
 | [], a, k, _, h, hk => rfl
 | c :: l, a, k, hl, h, hk => by
  simp only [List.all_cons, Bool.and_eq_true] at hl
  have hc := of_decide_eq_true hl.1
  simp only [List.length_cons] at hk
  have hp : (10 : Nat) ^ k <= 10 ^ 16 := Nat.pow_le_pow_right (by omega) (by omega)
  have hp2 : (10 : Nat) ^ 16 = 10000000000000000 := by decide
  simp only [parseUintM, dec]
  rw [if_pos hc, if_neg (by omega), if_neg (by omega), show a * 10 + (c.toNat - 48) = 10 * a + (c.toNat - 48) by omega]
  exact xG l _ (k + 1) hl.2 (by rw [Nat.pow_succ]; omega) (by omega)
theorem QE (l : List UInt8) (h0 : l ≠ []) (hl : l.all aHl = true) (hk : l.length <= 17) : parseIntB 64 l = .ok (dec l 0 : Nat) := by
 have h := xG l 0 0 hl (by decide) (by omega)
 have hb := dec_lt l 0 0 hl (by decide)
 rw [Nat.zero_add] at hb
 have hp : (10 : Nat) ^ l.length <= 10 ^ 17 := Nat.pow_le_pow_right (by omega) hk
 have hp2 : (10 : Nat) ^ 17 = 100000000000000000 := by decide
 cases l with
 | nil => exact absurd rfl h0
 | cons c r =>
  have hc : 48 <= c.toNat /\ c.toNat <= 57 := of_decide_eq_true (by simp only [List.all_cons, Bool.and_eq_true] at hl; exact hl.1)
  unfold parseIntB
  simp only
  rw [if_neg (by omega)]
  unfold parseUintB
  rw [if_neg h0, show 2 ^ 64 - 1 = 18446744073709551615 by decide, h]
  simp only
  have e63 : 2 ^ (64 - 1) = 9223372036854775808 := by decide
  rw [if_neg (by rw [e63]; omega), if_neg (by omega), if_neg (by omega)]
def fZ (s : ByteArray) : Int :=
 if s.size = 2 /\ 48 <= aZ s 0 /\ aZ s 0 <= 57 /\ 48 <= aZ s 1 /\ aZ s 1 <= 57 /\ 21 <= 10 * (aZ s 0 - 48) + (aZ s 1 - 48) /\ 10 * (aZ s 0 - 48) + (aZ s 1 - 48) <= 41 then 10 * (aZ s 0 - 48) + (aZ s 1 - 48) else 0
theorem jZ (s : ByteArray) : fZ s = 0 \/ (21 <= fZ s /\ fZ s <= 41) := by
 unfold fZ; split
 . next h => exact Or.inr ⟨h.2.2.2.2.2.1, h.2.2.2.2.2.2⟩
 . exact Or.inl rfl
theorem KQ (a b : UInt8) (v : Int) : (atoiAll [a, b] = .ok v /\ 21 <= v /\ v <= 41) ↔ ((48 <= a.toNat /\ a.toNat <= 57 /\ 48 <= b.toNat /\ b.toNat <= 57 /\ 21 <= 10 * (a.toNat - 48) + (b.toNat - 48) /\ 10 * (a.toNat - 48) + (b.toNat - 48) <= 41) /\ v = ((10 * (a.toNat - 48) + (b.toNat - 48) : Nat) : Int)) := by
 unfold atoiAll
 simp only
 by_cases hs : a.toNat = 43 \/ a.toNat = 45
 . rw [if_pos hs]
   constructor
   . rintro ⟨h, h1, h2⟩
     exfalso
     unfold parseMag at h
     rw [if_neg (by simp)] at h
     unfold parseUint10 at h
     by_cases hb : 48 <= b.toNat /\ b.toNat <= 57
     . rw [if_pos hb, if_neg (by omega), if_neg (by omega)] at h
       unfold parseUint10 at h
       simp only at h
       split at h
       . cases h
       . split at h
         . cases h
         . injection h with h
           split at h <;> omega
     . rw [if_neg hb] at h
       cases h
   . rintro ⟨h, _⟩; omega
 . rw [if_neg hs]
   unfold parseMag
   rw [if_neg (by simp)]
   unfold parseUint10
   by_cases ha : 48 <= a.toNat /\ a.toNat <= 57
   . rw [if_pos ha, if_neg (by omega), if_neg (by omega)]
     unfold parseUint10
     by_cases hb : 48 <= b.toNat /\ b.toNat <= 57
     . rw [if_pos hb, if_neg (by omega), if_neg (by omega)]
       unfold parseUint10
       simp only
       rw [if_neg (by omega), if_neg (by omega), if_neg (by omega)]
       constructor
       . rintro ⟨h, h1, h2⟩
         injection h with h
         refine ⟨⟨ha.1, ha.2, hb.1, hb.2, ?_, ?_⟩, ?_⟩ <;> omega
       . rintro ⟨⟨_, _, _, _, h1, h2⟩, rfl⟩
         refine ⟨?_, by omega, by omega⟩
         congr 1
         omega
     . rw [if_neg hb]
       constructor
       . rintro ⟨h, _⟩; cases h
       . rintro ⟨⟨_, _, h1, h2, _⟩, _⟩; exact absurd ⟨h1, h2⟩ hb
   . rw [if_neg ha]
     constructor
     . rintro ⟨h, _⟩; cases h
     . rintro ⟨⟨h1, h2, _⟩, _⟩; exact absurd ⟨h1, h2⟩ ha
theorem tY {s : ByteArray} (h : s.size = 2) : ∃ a b : UInt8, s.data.toList = [a, b] /\ aZ s 0 = a.toNat /\ aZ s 1 = b.toNat := by
 have hl : s.data.toList.length = 2 := by simpa using h
 match e : s.data.toList, hl with
 | [a, b], _ => exact ⟨a, b, rfl, by unfold aZ; rw [e]; rfl, by unfold aZ; rw [e]; rfl⟩
theorem YP {s : ByteArray} (h2 : s.size = 2) {v : Int} (h : atoiAll s.data.toList = .ok v) : fZ s = if 21 <= v /\ v <= 41 then v else 0 := by
 obtain ⟨a, b, e, e0, e1⟩ := tY h2
 rw [e] at h
 by_cases c : 21 <= v /\ v <= 41
 . obtain ⟨g, hv⟩ := (KQ a b v).1 ⟨h, c.1, c.2⟩
   rw [if_pos c]
   unfold fZ
   rw [e0, e1, if_pos (by omega)]
   omega
 . rw [if_neg c]
   unfold fZ
   rw [e0, e1]
   split
   . rename_i g
     exfalso
     have := ((KQ a b _).2 ⟨by omega, rfl⟩).1
     rw [h] at this
     injection this with this
     omega
   . rfl
theorem aEn {s : ByteArray} (h : ∀ v, atoiAll s.data.toList ≠ .ok v) : fZ s = 0 := by
 unfold fZ
 split
 . rename_i g
   exfalso
   obtain ⟨a, b, e, e0, e1⟩ := tY g.1
   rw [e] at h
   exact h _ ((KQ a b _).2 ⟨by omega, rfl⟩).1
 . rfl
theorem uF {s : ByteArray} (h : ¬ s.size = 2) : fZ s = 0 := by
 unfold fZ; rw [if_neg (fun g => h g.1)]
end Bk
end
section
namespace Bk
def dg (v : Int) (i : Nat) : Int := if i = 0 then v / 1000 else if i = 1 then v / 100 % 10 else if i = 2 then v / 10 % 10 else v % 10
def dB (b : Nat -> Int) (v : Int) (i : Nat) : Prop := b i = 88 \/ b i = 48 + dg v i
def oC (b : Nat -> Int) (v : Int) : Prop := 0 <= v /\ v <= 9999 /\ dB b v 0 /\ dB b v 1 /\ dB b v 2 /\ dB b v 3
def dD (o : Nat -> Int) : Int := 1000 * (o 0 - 48) + 100 * (o 1 - 48) + 10 * (o 2 - 48) + (o 3 - 48)
def MOk (b : Nat -> Int) : Prop := ∀ i, i < 4 -> b i = 88 \/ (48 <= b i /\ b i <= 57)
theorem lG (v : Int) (h0 : 0 <= v) (h1 : v <= 9999) : ∃ d0 d1 d2 d3 : Int, 0 <= d0 /\ d0 <= 9 /\ 0 <= d1 /\ d1 <= 9 /\ 0 <= d2 /\ d2 <= 9 /\ 0 <= d3 /\ d3 <= 9 /\ v = 1000 * d0 + 100 * d1 + 10 * d2 + d3 /\ dg v 0 = d0 /\ dg v 1 = d1 /\ dg v 2 = d2 /\ dg v 3 = d3 :=
 ⟨v / 1000, v / 100 % 10, v / 10 % 10, v % 10, by omega, by omega, by omega, by omega, by omega, by omega, by omega, by omega, by omega, rfl, rfl, rfl, rfl⟩
theorem aPB {v d0 d1 d2 d3 : Int} (h : v = 1000 * d0 + 100 * d1 + 10 * d2 + d3) (a0 : 0 <= d0) (a1 : d0 <= 9) (b0 : 0 <= d1) (b1 : d1 <= 9) (c0 : 0 <= d2) (c1 : d2 <= 9) (e0 : 0 <= d3) (e1 : d3 <= 9) :
 dg v 0 = d0 /\ dg v 1 = d1 /\ dg v 2 = d2 /\ dg v 3 = d3 := by
 refine ⟨?_, ?_, ?_, ?_⟩ <;> simp only [dg] <;> simp <;> omega
theorem nH (b : Nat -> Int) (v : Int) : oC b v ↔ ∃ d0 d1 d2 d3 : Int, 0 <= d0 /\ d0 <= 9 /\ 0 <= d1 /\ d1 <= 9 /\ 0 <= d2 /\ d2 <= 9 /\ 0 <= d3 /\ d3 <= 9 /\ v = 1000 * d0 + 100 * d1 + 10 * d2 + d3 /\ (b 0 = 88 \/ b 0 = 48 + d0) /\ (b 1 = 88 \/ b 1 = 48 + d1) /\ (b 2 = 88 \/ b 2 = 48 + d2) /\ (b 3 = 88 \/ b 3 = 48 + d3) := by
 constructor
 . rintro ⟨h0, h1, f0, f1, f2, f3⟩
   obtain ⟨d0, d1, d2, d3, a0, a1, a2, a3, a4, a5, a6, a7, e, e0, e1, e2, e3⟩ := lG v h0 h1
   unfold dB at f0 f1 f2 f3
   rw [e0] at f0; rw [e1] at f1; rw [e2] at f2; rw [e3] at f3
   exact ⟨d0, d1, d2, d3, a0, a1, a2, a3, a4, a5, a6, a7, e, f0, f1, f2, f3⟩
 . rintro ⟨d0, d1, d2, d3, a0, a1, a2, a3, a4, a5, a6, a7, e, f0, f1, f2, f3⟩
   obtain ⟨e0, e1, e2, e3⟩ := aPB e a0 a1 a2 a3 a4 a5 a6 a7
   refine ⟨by omega, by omega, ?_, ?_, ?_, ?_⟩ <;> unfold dB
   . rw [e0]; exact f0
   . rw [e1]; exact f1
   . rw [e2]; exact f2
   . rw [e3]; exact f3
theorem JJ {b : Nat -> Int} {n : Int} (h0 : 0 <= n) (h1 : n <= 9999) (h : ∀ i, i < 4 -> dB b n i) : oC b n := ⟨h0, h1, h 0 (by omega), h 1 (by omega), h 2 (by omega), h 3 (by omega)⟩
theorem aIp {b o : Nat -> Int} {n : Int} {k : Nat} (hb : MOk b) (h0 : 0 <= n) (h1 : n <= 9999) (hk : k < 4) (hf : ∀ i, i < k -> dB b n i) (hx : b k ≠ 88) (hg : 48 + dg n k < b k)
 (ho : ∀ i, i < k -> o i = 48 + dg n i) (hr : ∀ i, k <= i -> i < 4 -> o i = if b i = 88 then 48 else b i) : oC b (dD o) /\ n <= dD o /\ ∀ f, oC b f -> n <= f -> dD o <= f := by
 obtain ⟨d0, d1, d2, d3, a0, a1, a2, a3, a4, a5, a6, a7, e, e0, e1, e2, e3⟩ := lG n h0 h1
 have m0 := hb 0 (by omega); have m1 := hb 1 (by omega); have m2 := hb 2 (by omega); have m3 := hb 3 (by omega)
 simp only [nH]
 obtain rfl | rfl | rfl | rfl : k = 0 \/ k = 1 \/ k = 2 \/ k = 3 := by omega
 . have r0 := hr 0 (by omega) (by omega)
   have r1 := hr 1 (by omega) (by omega)
   have r2 := hr 2 (by omega) (by omega)
   have r3 := hr 3 (by omega) (by omega)
   rw [e0] at hg
   clear hf ho hr hb e0 e1 e2 e3
   unfold dD
   refine ⟨⟨o 0 - 48, o 1 - 48, o 2 - 48, o 3 - 48, ?_⟩, ?_, ?_⟩
   . split at r0 <;> split at r1 <;> split at r2 <;> split at r3 <;> omega
   . split at r0 <;> split at r1 <;> split at r2 <;> split at r3 <;> omega
   . rintro f ⟨f0, f1, f2, f3, g⟩ hn; split at r0 <;> split at r1 <;> split at r2 <;> split at r3 <;> omega
 . have p0 := hf 0 (by omega)
   unfold dB at p0
   rw [e0] at p0
   have q0 := ho 0 (by omega)
   rw [e0] at q0
   have r1 := hr 1 (by omega) (by omega)
   have r2 := hr 2 (by omega) (by omega)
   have r3 := hr 3 (by omega) (by omega)
   rw [e1] at hg
   clear hf ho hr hb e0 e1 e2 e3
   unfold dD
   refine ⟨⟨o 0 - 48, o 1 - 48, o 2 - 48, o 3 - 48, ?_⟩, ?_, ?_⟩
   . split at r1 <;> split at r2 <;> split at r3 <;> omega
   . split at r1 <;> split at r2 <;> split at r3 <;> omega
   . rintro f ⟨f0, f1, f2, f3, g⟩ hn; split at r1 <;> split at r2 <;> split at r3 <;> omega
 . have p0 := hf 0 (by omega)
   unfold dB at p0
   rw [e0] at p0
   have q0 := ho 0 (by omega)
   rw [e0] at q0
   have p1 := hf 1 (by omega)
   unfold dB at p1
   rw [e1] at p1
   have q1 := ho 1 (by omega)
   rw [e1] at q1
   have r2 := hr 2 (by omega) (by omega)
   have r3 := hr 3 (by omega) (by omega)
   rw [e2] at hg
   clear hf ho hr hb e0 e1 e2 e3
   unfold dD
   refine ⟨⟨o 0 - 48, o 1 - 48, o 2 - 48, o 3 - 48, ?_⟩, ?_, ?_⟩
   . split at r2 <;> split at r3 <;> omega
   . split at r2 <;> split at r3 <;> omega
   . rintro f ⟨f0, f1, f2, f3, g⟩ hn; split at r2 <;> split at r3 <;> omega
 . have p0 := hf 0 (by omega)
   unfold dB at p0
   rw [e0] at p0
   have q0 := ho 0 (by omega)
   rw [e0] at q0
   have p1 := hf 1 (by omega)
   unfold dB at p1
   rw [e1] at p1
   have q1 := ho 1 (by omega)
   rw [e1] at q1
   have p2 := hf 2 (by omega)
   unfold dB at p2
   rw [e2] at p2
   have q2 := ho 2 (by omega)
   rw [e2] at q2
   have r3 := hr 3 (by omega) (by omega)
   rw [e3] at hg
   clear hf ho hr hb e0 e1 e2 e3
   unfold dD
   refine ⟨⟨o 0 - 48, o 1 - 48, o 2 - 48, o 3 - 48, ?_⟩, ?_, ?_⟩
   . split at r3 <;> omega
   . split at r3 <;> omega
   . rintro f ⟨f0, f1, f2, f3, g⟩ hn; split at r3 <;> omega
theorem aIq {b o : Nat -> Int} {n : Int} {k j : Nat} (hb : MOk b) (h0 : 0 <= n) (h1 : n <= 9999) (hk : k < 4) (hf : ∀ i, i < k -> dB b n i) (hx : b k ≠ 88) (hg : b k < 48 + dg n k)
 (hj : j < k) (hbx : b j = 88) (hd : dg n j ≠ 9) (hn : ∀ i, j < i -> i < k -> ¬ (b i = 88 /\ dg n i ≠ 9))
 (ho : ∀ i, i < j -> o i = 48 + dg n i) (hoj : o j = 48 + dg n j + 1) (hr : ∀ i, j < i -> i < 4 -> o i = if b i = 88 then 48 else b i) : oC b (dD o) /\ n <= dD o /\ ∀ f, oC b f -> n <= f -> dD o <= f := by
 obtain ⟨d0, d1, d2, d3, a0, a1, a2, a3, a4, a5, a6, a7, e, e0, e1, e2, e3⟩ := lG n h0 h1
 have m0 := hb 0 (by omega); have m1 := hb 1 (by omega); have m2 := hb 2 (by omega); have m3 := hb 3 (by omega)
 simp only [nH]
 obtain ⟨rfl, rfl⟩ | ⟨rfl, rfl⟩ | ⟨rfl, rfl⟩ | ⟨rfl, rfl⟩ | ⟨rfl, rfl⟩ | ⟨rfl, rfl⟩ : (j = 0 /\ k = 1) \/ (j = 0 /\ k = 2) \/ (j = 0 /\ k = 3) \/ (j = 1 /\ k = 2) \/ (j = 1 /\ k = 3) \/ (j = 2 /\ k = 3) := by omega
 . have p0 := hf 0 (by omega)
   unfold dB at p0
   rw [e0] at p0
   rw [e0] at hoj hd
   have r1 := hr 1 (by omega) (by omega)
   have r2 := hr 2 (by omega) (by omega)
   have r3 := hr 3 (by omega) (by omega)
   rw [e1] at hg
   clear hf ho hr hb hn e0 e1 e2 e3
   unfold dD
   refine ⟨⟨o 0 - 48, o 1 - 48, o 2 - 48, o 3 - 48, ?_⟩, ?_, ?_⟩
   . split at r1 <;> split at r2 <;> split at r3 <;> omega
   . split at r1 <;> split at r2 <;> split at r3 <;> omega
   . rintro f ⟨f0, f1, f2, f3, g⟩ hn; split at r1 <;> split at r2 <;> split at r3 <;> omega
 . have p0 := hf 0 (by omega)
   unfold dB at p0
   rw [e0] at p0
   have p1 := hf 1 (by omega)
   unfold dB at p1
   rw [e1] at p1
   rw [e0] at hoj hd
   have s1 := hn 1 (by omega) (by omega)
   rw [e1] at s1
   have r1 := hr 1 (by omega) (by omega)
   have r2 := hr 2 (by omega) (by omega)
   have r3 := hr 3 (by omega) (by omega)
   rw [e2] at hg
   clear hf ho hr hb hn e0 e1 e2 e3
   unfold dD
   refine ⟨⟨o 0 - 48, o 1 - 48, o 2 - 48, o 3 - 48, ?_⟩, ?_, ?_⟩
   . split at r1 <;> split at r2 <;> split at r3 <;> omega
   . split at r1 <;> split at r2 <;> split at r3 <;> omega
   . rintro f ⟨f0, f1, f2, f3, g⟩ hn; split at r1 <;> split at r2 <;> split at r3 <;> omega
 . have p0 := hf 0 (by omega)
   unfold dB at p0
   rw [e0] at p0
   have p1 := hf 1 (by omega)
   unfold dB at p1
   rw [e1] at p1
   have p2 := hf 2 (by omega)
   unfold dB at p2
   rw [e2] at p2
   rw [e0] at hoj hd
   have s1 := hn 1 (by omega) (by omega)
   rw [e1] at s1
   have s2 := hn 2 (by omega) (by omega)
   rw [e2] at s2
   have r1 := hr 1 (by omega) (by omega)
   have r2 := hr 2 (by omega) (by omega)
   have r3 := hr 3 (by omega) (by omega)
   rw [e3] at hg
   clear hf ho hr hb hn e0 e1 e2 e3
   unfold dD
   refine ⟨⟨o 0 - 48, o 1 - 48, o 2 - 48, o 3 - 48, ?_⟩, ?_, ?_⟩
   . split at r1 <;> split at r2 <;> split at r3 <;> omega
   . split at r1 <;> split at r2 <;> split at r3 <;> omega
   . rintro f ⟨f0, f1, f2, f3, g⟩ hn; split at r1 <;> split at r2 <;> split at r3 <;> omega
 . have p0 := hf 0 (by omega)
   unfold dB at p0
   rw [e0] at p0
   have p1 := hf 1 (by omega)
   unfold dB at p1
   rw [e1] at p1
   have q0 := ho 0 (by omega)
   rw [e0] at q0
   rw [e1] at hoj hd
   have r2 := hr 2 (by omega) (by omega)
   have r3 := hr 3 (by omega) (by omega)
   rw [e2] at hg
   clear hf ho hr hb hn e0 e1 e2 e3
   unfold dD
   refine ⟨⟨o 0 - 48, o 1 - 48, o 2 - 48, o 3 - 48, ?_⟩, ?_, ?_⟩
   . split at r2 <;> split at r3 <;> omega
   . split at r2 <;> split at r3 <;> omega
   . rintro f ⟨f0, f1, f2, f3, g⟩ hn; split at r2 <;> split at r3 <;> omega
 . have p0 := hf 0 (by omega)
   unfold dB at p0
   rw [e0] at p0
   have p1 := hf 1 (by omega)
   unfold dB at p1
   rw [e1] at p1
   have p2 := hf 2 (by omega)
   unfold dB at p2
   rw [e2] at p2
   have q0 := ho 0 (by omega)
   rw [e0] at q0
   rw [e1] at hoj hd
   have s2 := hn 2 (by omega) (by omega)
   rw [e2] at s2
   have r2 := hr 2 (by omega) (by omega)
   have r3 := hr 3 (by omega) (by omega)
   rw [e3] at hg
   clear hf ho hr hb hn e0 e1 e2 e3
   unfold dD
   refine ⟨⟨o 0 - 48, o 1 - 48, o 2 - 48, o 3 - 48, ?_⟩, ?_, ?_⟩
   . split at r2 <;> split at r3 <;> omega
   . split at r2 <;> split at r3 <;> omega
   . rintro f ⟨f0, f1, f2, f3, g⟩ hn; split at r2 <;> split at r3 <;> omega
 . have p0 := hf 0 (by omega)
   unfold dB at p0
   rw [e0] at p0
   have p1 := hf 1 (by omega)
   unfold dB at p1
   rw [e1] at p1
   have p2 := hf 2 (by omega)
   unfold dB at p2
   rw [e2] at p2
   have q0 := ho 0 (by omega)
   rw [e0] at q0
   have q1 := ho 1 (by omega)
   rw [e1] at q1
   rw [e2] at hoj hd
   have r3 := hr 3 (by omega) (by omega)
   rw [e3] at hg
   clear hf ho hr hb hn e0 e1 e2 e3
   unfold dD
   refine ⟨⟨o 0 - 48, o 1 - 48, o 2 - 48, o 3 - 48, ?_⟩, ?_, ?_⟩
   . split at r3 <;> omega
   . split at r3 <;> omega
   . rintro f ⟨f0, f1, f2, f3, g⟩ hn; split at r3 <;> omega
theorem aIo {b : Nat -> Int} {n : Int} {k : Nat} (h0 : 0 <= n) (h1 : n <= 9999) (hk : k < 4) (hf : ∀ i, i < k -> dB b n i) (hx : b k ≠ 88) (hg : b k < 48 + dg n k)
 (hn : ∀ i, i < k -> ¬ (b i = 88 /\ dg n i ≠ 9)) : ∀ f, oC b f -> f < n := by
 obtain ⟨d0, d1, d2, d3, a0, a1, a2, a3, a4, a5, a6, a7, e, e0, e1, e2, e3⟩ := lG n h0 h1
 simp only [nH]
 obtain rfl | rfl | rfl | rfl : k = 0 \/ k = 1 \/ k = 2 \/ k = 3 := by omega
 . rw [e0] at hg
   clear hf hn e0 e1 e2 e3
   rintro f ⟨f0, f1, f2, f3, g⟩; omega
 . have p0 := hf 0 (by omega)
   unfold dB at p0
   rw [e0] at p0
   have s0 := hn 0 (by omega)
   rw [e0] at s0
   rw [e1] at hg
   clear hf hn e0 e1 e2 e3
   rintro f ⟨f0, f1, f2, f3, g⟩; omega
 . have p0 := hf 0 (by omega)
   unfold dB at p0
   rw [e0] at p0
   have s0 := hn 0 (by omega)
   rw [e0] at s0
   have p1 := hf 1 (by omega)
   unfold dB at p1
   rw [e1] at p1
   have s1 := hn 1 (by omega)
   rw [e1] at s1
   rw [e2] at hg
   clear hf hn e0 e1 e2 e3
   rintro f ⟨f0, f1, f2, f3, g⟩; omega
 . have p0 := hf 0 (by omega)
   unfold dB at p0
   rw [e0] at p0
   have s0 := hn 0 (by omega)
   rw [e0] at s0
   have p1 := hf 1 (by omega)
   unfold dB at p1
   rw [e1] at p1
   have s1 := hn 1 (by omega)
   rw [e1] at s1
   have p2 := hf 2 (by omega)
   unfold dB at p2
   rw [e2] at p2
   have s2 := hn 2 (by omega)
   rw [e2] at s2
   rw [e3] at hg
   clear hf hn e0 e1 e2 e3
   rintro f ⟨f0, f1, f2, f3, g⟩; omega
theorem aJ6 {b o : Nat -> Int} {n : Int} {k : Nat} (hb : MOk b) (h0 : 0 <= n) (h1 : n <= 9999) (hk : k < 4) (hf : ∀ i, i < k -> dB b n i) (hx : b k ≠ 88) (hg : b k < 48 + dg n k)
 (ho : ∀ i, i < k -> o i = 48 + dg n i) (hr : ∀ i, k <= i -> i < 4 -> o i = if b i = 88 then 57 else b i) : oC b (dD o) /\ dD o <= n /\ ∀ f, oC b f -> f <= n -> f <= dD o := by
 obtain ⟨d0, d1, d2, d3, a0, a1, a2, a3, a4, a5, a6, a7, e, e0, e1, e2, e3⟩ := lG n h0 h1
 have m0 := hb 0 (by omega); have m1 := hb 1 (by omega); have m2 := hb 2 (by omega); have m3 := hb 3 (by omega)
 simp only [nH]
 obtain rfl | rfl | rfl | rfl : k = 0 \/ k = 1 \/ k = 2 \/ k = 3 := by omega
 . have r0 := hr 0 (by omega) (by omega)
   have r1 := hr 1 (by omega) (by omega)
   have r2 := hr 2 (by omega) (by omega)
   have r3 := hr 3 (by omega) (by omega)
   rw [e0] at hg
   clear hf ho hr hb e0 e1 e2 e3
   unfold dD
   refine ⟨⟨o 0 - 48, o 1 - 48, o 2 - 48, o 3 - 48, ?_⟩, ?_, ?_⟩
   . split at r0 <;> split at r1 <;> split at r2 <;> split at r3 <;> omega
   . split at r0 <;> split at r1 <;> split at r2 <;> split at r3 <;> omega
   . rintro f ⟨f0, f1, f2, f3, g⟩ hn; split at r0 <;> split at r1 <;> split at r2 <;> split at r3 <;> omega
 . have p0 := hf 0 (by omega)
   unfold dB at p0
   rw [e0] at p0
   have q0 := ho 0 (by omega)
   rw [e0] at q0
   have r1 := hr 1 (by omega) (by omega)
   have r2 := hr 2 (by omega) (by omega)
   have r3 := hr 3 (by omega) (by omega)
   rw [e1] at hg
   clear hf ho hr hb e0 e1 e2 e3
   unfold dD
   refine ⟨⟨o 0 - 48, o 1 - 48, o 2 - 48, o 3 - 48, ?_⟩, ?_, ?_⟩
   . split at r1 <;> split at r2 <;> split at r3 <;> omega
   . split at r1 <;> split at r2 <;> split at r3 <;> omega
   . rintro f ⟨f0, f1, f2, f3, g⟩ hn; split at r1 <;> split at r2 <;> split at r3 <;> omega
 . have p0 := hf 0 (by omega)
   unfold dB at p0
   rw [e0] at p0
   have q0 := ho 0 (by omega)
   rw [e0] at q0
   have p1 := hf 1 (by omega)
   unfold dB at p1
   rw [e1] at p1
   have q1 := ho 1 (by omega)
   rw [e1] at q1
   have r2 := hr 2 (by omega) (by omega)
   have r3 := hr 3 (by omega) (by omega)
   rw [e2] at hg
   clear hf ho hr hb e0 e1 e2 e3
   unfold dD
   refine ⟨⟨o 0 - 48, o 1 - 48, o 2 - 48, o 3 - 48, ?_⟩, ?_, ?_⟩
   . split at r2 <;> split at r3 <;> omega
   . split at r2 <;> split at r3 <;> omega
   . rintro f ⟨f0, f1, f2, f3, g⟩ hn; split at r2 <;> split at r3 <;> omega
 . have p0 := hf 0 (by omega)
   unfold dB at p0
   rw [e0] at p0
   have q0 := ho 0 (by omega)
   rw [e0] at q0
   have p1 := hf 1 (by omega)
   unfold dB at p1
   rw [e1] at p1
   have q1 := ho 1 (by omega)
   rw [e1] at q1
   have p2 := hf 2 (by omega)
   unfold dB at p2
   rw [e2] at p2
   have q2 := ho 2 (by omega)
   rw [e2] at q2
   have r3 := hr 3 (by omega) (by omega)
   rw [e3] at hg
   clear hf ho hr hb e0 e1 e2 e3
   unfold dD
   refine ⟨⟨o 0 - 48, o 1 - 48, o 2 - 48, o 3 - 48, ?_⟩, ?_, ?_⟩
   . split at r3 <;> omega
   . split at r3 <;> omega
   . rintro f ⟨f0, f1, f2, f3, g⟩ hn; split at r3 <;> omega
theorem aJ7 {b o : Nat -> Int} {n : Int} {k j : Nat} (hb : MOk b) (h0 : 0 <= n) (h1 : n <= 9999) (hk : k < 4) (hf : ∀ i, i < k -> dB b n i) (hx : b k ≠ 88) (hg : 48 + dg n k < b k)
 (hj : j < k) (hbx : b j = 88) (hd : dg n j ≠ 0) (hn : ∀ i, j < i -> i < k -> ¬ (b i = 88 /\ dg n i ≠ 0))
 (ho : ∀ i, i < j -> o i = 48 + dg n i) (hoj : o j = 48 + dg n j - 1) (hr : ∀ i, j < i -> i < 4 -> o i = if b i = 88 then 57 else b i) : oC b (dD o) /\ dD o <= n /\ ∀ f, oC b f -> f <= n -> f <= dD o := by
 obtain ⟨d0, d1, d2, d3, a0, a1, a2, a3, a4, a5, a6, a7, e, e0, e1, e2, e3⟩ := lG n h0 h1
 have m0 := hb 0 (by omega); have m1 := hb 1 (by omega); have m2 := hb 2 (by omega); have m3 := hb 3 (by omega)
 simp only [nH]
 obtain ⟨rfl, rfl⟩ | ⟨rfl, rfl⟩ | ⟨rfl, rfl⟩ | ⟨rfl, rfl⟩ | ⟨rfl, rfl⟩ | ⟨rfl, rfl⟩ : (j = 0 /\ k = 1) \/ (j = 0 /\ k = 2) \/ (j = 0 /\ k = 3) \/ (j = 1 /\ k = 2) \/ (j = 1 /\ k = 3) \/ (j = 2 /\ k = 3) := by omega
 . have p0 := hf 0 (by omega)
   unfold dB at p0
   rw [e0] at p0
   rw [e0] at hoj hd
   have r1 := hr 1 (by omega) (by omega)
   have r2 := hr 2 (by omega) (by omega)
   have r3 := hr 3 (by omega) (by omega)
   rw [e1] at hg
   clear hf ho hr hb hn e0 e1 e2 e3
   unfold dD
   refine ⟨⟨o 0 - 48, o 1 - 48, o 2 - 48, o 3 - 48, ?_⟩, ?_, ?_⟩
   . split at r1 <;> split at r2 <;> split at r3 <;> omega
   . split at r1 <;> split at r2 <;> split at r3 <;> omega
   . rintro f ⟨f0, f1, f2, f3, g⟩ hn; split at r1 <;> split at r2 <;> split at r3 <;> omega
 . have p0 := hf 0 (by omega)
   unfold dB at p0
   rw [e0] at p0
   have p1 := hf 1 (by omega)
   unfold dB at p1
   rw [e1] at p1
   rw [e0] at hoj hd
   have s1 := hn 1 (by omega) (by omega)
   rw [e1] at s1
   have r1 := hr 1 (by omega) (by omega)
   have r2 := hr 2 (by omega) (by omega)
   have r3 := hr 3 (by omega) (by omega)
   rw [e2] at hg
   clear hf ho hr hb hn e0 e1 e2 e3
   unfold dD
   refine ⟨⟨o 0 - 48, o 1 - 48, o 2 - 48, o 3 - 48, ?_⟩, ?_, ?_⟩
   . split at r1 <;> split at r2 <;> split at r3 <;> omega
   . split at r1 <;> split at r2 <;> split at r3 <;> omega
   . rintro f ⟨f0, f1, f2, f3, g⟩ hn; split at r1 <;> split at r2 <;> split at r3 <;> omega
 . have p0 := hf 0 (by omega)
   unfold dB at p0
   rw [e0] at p0
   have p1 := hf 1 (by omega)
   unfold dB at p1
   rw [e1] at p1
   have p2 := hf 2 (by omega)
   unfold dB at p2
   rw [e2] at p2
   rw [e0] at hoj hd
   have s1 := hn 1 (by omega) (by omega)
   rw [e1] at s1
   have s2 := hn 2 (by omega) (by omega)
   rw [e2] at s2
   have r1 := hr 1 (by omega) (by omega)
   have r2 := hr 2 (by omega) (by omega)
   have r3 := hr 3 (by omega) (by omega)
   rw [e3] at hg
   clear hf ho hr hb hn e0 e1 e2 e3
   unfold dD
   refine ⟨⟨o 0 - 48, o 1 - 48, o 2 - 48, o 3 - 48, ?_⟩, ?_, ?_⟩
   . split at r1 <;> split at r2 <;> split at r3 <;> omega
   . split at r1 <;> split at r2 <;> split at r3 <;> omega
   . rintro f ⟨f0, f1, f2, f3, g⟩ hn; split at r1 <;> split at r2 <;> split at r3 <;> omega
 . have p0 := hf 0 (by omega)
   unfold dB at p0
   rw [e0] at p0
   have p1 := hf 1 (by omega)
   unfold dB at p1
   rw [e1] at p1
   have q0 := ho 0 (by omega)
   rw [e0] at q0
   rw [e1] at hoj hd
   have r2 := hr 2 (by omega) (by omega)
   have r3 := hr 3 (by omega) (by omega)
   rw [e2] at hg
   clear hf ho hr hb hn e0 e1 e2 e3
   unfold dD
   refine ⟨⟨o 0 - 48, o 1 - 48, o 2 - 48, o 3 - 48, ?_⟩, ?_, ?_⟩
   . split at r2 <;> split at r3 <;> omega
   . split at r2 <;> split at r3 <;> omega
   . rintro f ⟨f0, f1, f2, f3, g⟩ hn; split at r2 <;> split at r3 <;> omega
 . have p0 := hf 0 (by omega)
   unfold dB at p0
   rw [e0] at p0
   have p1 := hf 1 (by omega)
   unfold dB at p1
   rw [e1] at p1
   have p2 := hf 2 (by omega)
   unfold dB at p2
   rw [e2] at p2
   have q0 := ho 0 (by omega)
   rw [e0] at q0
   rw [e1] at hoj hd
   have s2 := hn 2 (by omega) (by omega)
   rw [e2] at s2
   have r2 := hr 2 (by omega) (by omega)
   have r3 := hr 3 (by omega) (by omega)
   rw [e3] at hg
   clear hf ho hr hb hn e0 e1 e2 e3
   unfold dD
   refine ⟨⟨o 0 - 48, o 1 - 48, o 2 - 48, o 3 - 48, ?_⟩, ?_, ?_⟩
   . split at r2 <;> split at r3 <;> omega
   . split at r2 <;> split at r3 <;> omega
   . rintro f ⟨f0, f1, f2, f3, g⟩ hn; split at r2 <;> split at r3 <;> omega
 . have p0 := hf 0 (by omega)
   unfold dB at p0
   rw [e0] at p0
   have p1 := hf 1 (by omega)
   unfold dB at p1
   rw [e1] at p1
   have p2 := hf 2 (by omega)
   unfold dB at p2
   rw [e2] at p2
   have q0 := ho 0 (by omega)
   rw [e0] at q0
   have q1 := ho 1 (by omega)
   rw [e1] at q1
   rw [e2] at hoj hd
   have r3 := hr 3 (by omega) (by omega)
   rw [e3] at hg
   clear hf ho hr hb hn e0 e1 e2 e3
   unfold dD
   refine ⟨⟨o 0 - 48, o 1 - 48, o 2 - 48, o 3 - 48, ?_⟩, ?_, ?_⟩
   . split at r3 <;> omega
   . split at r3 <;> omega
   . rintro f ⟨f0, f1, f2, f3, g⟩ hn; split at r3 <;> omega
theorem aJ5 {b : Nat -> Int} {n : Int} {k : Nat} (h0 : 0 <= n) (h1 : n <= 9999) (hk : k < 4) (hf : ∀ i, i < k -> dB b n i) (hx : b k ≠ 88) (hg : 48 + dg n k < b k)
 (hn : ∀ i, i < k -> ¬ (b i = 88 /\ dg n i ≠ 0)) : ∀ f, oC b f -> n < f := by
 obtain ⟨d0, d1, d2, d3, a0, a1, a2, a3, a4, a5, a6, a7, e, e0, e1, e2, e3⟩ := lG n h0 h1
 simp only [nH]
 obtain rfl | rfl | rfl | rfl : k = 0 \/ k = 1 \/ k = 2 \/ k = 3 := by omega
 . rw [e0] at hg
   clear hf hn e0 e1 e2 e3
   rintro f ⟨f0, f1, f2, f3, g⟩; omega
 . have p0 := hf 0 (by omega)
   unfold dB at p0
   rw [e0] at p0
   have s0 := hn 0 (by omega)
   rw [e0] at s0
   rw [e1] at hg
   clear hf hn e0 e1 e2 e3
   rintro f ⟨f0, f1, f2, f3, g⟩; omega
 . have p0 := hf 0 (by omega)
   unfold dB at p0
   rw [e0] at p0
   have s0 := hn 0 (by omega)
   rw [e0] at s0
   have p1 := hf 1 (by omega)
   unfold dB at p1
   rw [e1] at p1
   have s1 := hn 1 (by omega)
   rw [e1] at s1
   rw [e2] at hg
   clear hf hn e0 e1 e2 e3
   rintro f ⟨f0, f1, f2, f3, g⟩; omega
 . have p0 := hf 0 (by omega)
   unfold dB at p0
   rw [e0] at p0
   have s0 := hn 0 (by omega)
   rw [e0] at s0
   have p1 := hf 1 (by omega)
   unfold dB at p1
   rw [e1] at p1
   have s1 := hn 1 (by omega)
   rw [e1] at s1
   have p2 := hf 2 (by omega)
   unfold dB at p2
   rw [e2] at p2
   have s2 := hn 2 (by omega)
   rw [e2] at s2
   rw [e3] at hg
   clear hf hn e0 e1 e2 e3
   rintro f ⟨f0, f1, f2, f3, g⟩; omega
end Bk
end
section
namespace Bk
def p10 (k : Nat) : Int := 10 ^ k
theorem aID (k : Nat) (h : k <= 18) : (1 : Int) <= 10 ^ k /\ (10 : Int) ^ k <= 1000000000000000000 := by
 have h1 : (10 : Nat) ^ k <= 10 ^ 18 := Nat.pow_le_pow_right (by omega) h
 have h2 : 0 < (10 : Nat) ^ k := Nat.pos_of_ne_zero (by simp)
 have h3 : (10 : Nat) ^ 18 = 1000000000000000000 := by decide
 have e : ((10 : Int) ^ k) = ((10 ^ k : Nat) : Int) := by simp
 rw [e]; omega
theorem VX (k : Nat) : p10 (k + 1) = p10 k * 10 := by unfold p10; rw [Int.pow_succ]
theorem aFw (k : Nat) (h : k <= 18) : 1 <= p10 k /\ p10 k <= 1000000000000000000 := aID k h
theorem aBu (k : Nat) : 1 <= p10 k := by
 unfold p10
 have e : ((10 : Int) ^ k) = ((10 ^ k : Nat) : Int) := by simp
 have h2 : 0 < (10 : Nat) ^ k := Nat.pos_of_ne_zero (by simp)
 rw [e]; omega
def gB (s : ByteArray) : Int := (dec s.data.toList 0 : Nat)
theorem AL (s : ByteArray) : 0 <= gB s := by unfold gB; omega
def fO (s : ByteArray) (ex : Int) : Int := gB s * p10 ex.toNat
def isZ (x : Int) : Bool := decide (x = 48)
def fF (s : ByteArray) (ex : Int) : Bool :=
 decide (1 <= s.size) && (decide (s.size <= 17) && (allB dG s && (!decide (aZ s 0 = 48) && (decide (0 <= ex) && (decide (ex <= 16) && (!(decide (ex = 0) && decide (s.size < 5)) && decide (fO s ex <= 10000000000000000)))))))
def iD (neg : Bool) (s : ByteArray) (ex sig : Int) : Bool :=
 decide (s.size = 4) && (allB dP s && (decide (ex = 0) && (!(neg && allB isZ s) && !(!decide (sig = 0) && hasB 88 s))))
def KZ (neg long : Bool) (s : ByteArray) (ex sig : Int) : Bool := (if long then fF s ex else iD neg s ex sig) && (decide (0 <= sig) && decide (sig <= s.size + ex))
theorem jD {neg : Bool} {s : ByteArray} {ex sig : Int} (h : KZ neg true s ex sig = true) : 1 <= s.size /\ s.size <= 17 /\ allB dG s = true /\ aZ s 0 ≠ 48 /\ 0 <= ex /\ ex <= 16 /\ fO s ex <= 10000000000000000 /\ 0 <= sig /\ sig <= s.size + ex := by
 unfold KZ fF at h
 simp at h
 obtain ⟨⟨h1, h2, h3, h4, h5, h6, h7, h8⟩, h9, h10⟩ := h
 exact ⟨h1, h2, h3, h4, h5, h6, h8, h9, h10⟩
theorem iF {neg : Bool} {s : ByteArray} {ex sig : Int} (h : KZ neg false s ex sig = true) : s.size = 4 /\ allB dP s = true /\ ex = 0 /\ (neg = true -> allB isZ s = false) /\ (sig ≠ 0 -> hasB 88 s = false) /\ 0 <= sig /\ sig <= 4 := by
 unfold KZ iD at h
 simp at h
 obtain ⟨⟨h1, h2, h3, h4, h5⟩, h9, h10⟩ := h
 exact ⟨h1, h2, h3, fun hn => by cases h4 with
  | inl h => rw [hn] at h; cases h
  | inr h => exact h, fun hs => by cases h5 with
  | inl h => exact absurd h hs
  | inr h => exact h, h9, by omega⟩
def jJ (s : ByteArray) (n : Int) : Bool := decide (s.size = 2) && ((decide (aZ s 0 = 88) || decide (aZ s 0 = 48 + n / 10)) && (decide (aZ s 1 = 88) || decide (aZ s 1 = 48 + n % 10)))
def eG (s : ByteArray) (g : Nat) : Bool := (List.range g).any fun i => jJ s ((i : Int) + 1)
theorem rO (s : ByteArray) (g : Nat) : eG s (g + 1) = (eG s g || jJ s ((g : Int) + 1)) := by
 unfold eG; rw [List.range_succ, List.any_append]; simp
theorem GZ {s : ByteArray} {g h : Nat} (hle : g <= h) (hs : eG s g = true) : eG s h = true := by
 unfold eG at hs ⊢
 rw [List.any_eq_true] at hs ⊢
 obtain ⟨i, hi, ha⟩ := hs
 exact ⟨i, by rw [List.mem_range] at hi ⊢; omega, ha⟩
theorem BL (s : ByteArray) (g : Nat) : eG s g = true ↔ ∃ n : Int, 1 <= n /\ n <= g /\ jJ s n = true := by
 unfold eG
 rw [List.any_eq_true]
 constructor
 . rintro ⟨i, hi, ha⟩
   rw [List.mem_range] at hi
   exact ⟨(i : Int) + 1, by omega, by omega, ha⟩
 . rintro ⟨n, h1, h2, ha⟩
   refine ⟨(n - 1).toNat, by rw [List.mem_range]; omega, ?_⟩
   rw [show (((n - 1).toNat : Nat) : Int) + 1 = n by omega]; exact ha
def comps (mo da : ByteArray) : Int := 1 + (if mo.size = 0 then 0 else 1) + (if da.size = 0 then 0 else 1)
def eY (a b c n : Int) : Int := if a <= 3 /\ b <= 3 /\ c <= 3 /\ (n < 3 -> c = 0) /\ (n < 2 -> b = 0) then 0 else 9
structure Dt where
 neg : Bool
 long : Bool
 dg : ByteArray
 ex : Int
 sig : Int
 mo : ByteArray
 da : ByteArray
 m0 : Int
 m1 : Int
 m2 : Int
def Dt.PK (d : Dt) : Bool := KZ d.neg d.long d.dg d.ex d.sig
def Dt.mag (d : Dt) : Int := fO d.dg d.ex
def Dt.mask (d : Dt) : Bool := hasB 88 d.dg
def Dt.aH (d : Dt) : Int := fZ d.mo
def Dt.far (d : Dt) : Bool := (decide (d.aH = 24) || (decide (d.aH = 28) || decide (d.aH = 30))) && (!d.mask && (decide (d.mag = 10000000000000000) && !d.neg))
def Dt.mO (d : Dt) : Bool := d.PK && (!(decide (0 < d.sig) && !decide (d.mo.size = 0)) && !d.far)
def Dt.form (d : Dt) : Int :=
 if d.mO = false then 6
 else if (!decide (d.mo.size = 0) && (decide (d.aH = 0) && !eG d.mo 12)) = true then 7
 else if (!decide (d.da.size = 0) && (decide (d.mo.size = 0) || (!decide (d.aH = 0) || !eG d.da 31))) = true then 8
 else eY d.m0 d.m1 d.m2 (comps d.mo d.da)
def Dt.In (d : Dt) (y : Int) : Prop := if d.mask = true then (if d.neg = true then oC (aZ d.dg) (-y) /\ y ≠ 0 else oC (aZ d.dg) y) else y = (if d.neg = true then -d.mag else d.mag)
end Bk
end
section
namespace Bk
def pW (a b : Int) (l : List UInt8) : Int := (l.filter fun c => decide (a <= (c.toNat : Int)) && decide ((c.toNat : Int) <= b)).length
theorem FX (a b : Int) (l : List UInt8) : 0 <= pW a b l /\ pW a b l <= l.length := by
 unfold pW; exact ⟨by omega, by have := List.length_filter_le (fun c : UInt8 => decide (a <= (c.toNat : Int)) && decide ((c.toNat : Int) <= b)) l; omega⟩
theorem take_snoc (s : ByteArray) (k : Nat) (h : k < s.size) : s.data.toList.take (k + 1) = s.data.toList.take k ++ [s[k]] := by
 rw [List.take_succ_eq_append_getElem (by simpa using h)]; rfl
theorem aEg (a b : Int) (l : List UInt8) (c : UInt8) : pW a b (l ++ [c]) = pW a b l + if a <= (c.toNat : Int) /\ (c.toNat : Int) <= b then 1 else 0 := by
 unfold pW
 rw [List.filter_append]
 by_cases h : a <= (c.toNat : Int) <;> by_cases h2 : (c.toNat : Int) <= b <;> simp [List.filter_cons, h, h2]
theorem wQ (a b : Int) (l : List UInt8) (c : UInt8) : pW a b (c :: l) = pW a b l + if a <= (c.toNat : Int) /\ (c.toNat : Int) <= b then 1 else 0 := by
 unfold pW
 by_cases h : a <= (c.toNat : Int) <;> by_cases h2 : (c.toNat : Int) <= b <;> simp [List.filter_cons, h, h2]
def lH (a b : Int) (s : ByteArray) : Int := pW a b s.data.toList
theorem AQ (a b : Int) (s : ByteArray) : 0 <= lH a b s /\ lH a b s <= s.size := by
 have := FX a b s.data.toList
 unfold lH; simpa using this
theorem X7 : ∀ l : List UInt8, (pW 48 57 l + pW 88 88 l = l.length ↔ (l.all fun b => dP (b.toNat : Int)) = true) /\ pW 48 57 l + pW 88 88 l <= l.length
 | [] => by simp [pW]
 | c :: l => by
  obtain ⟨ih, ih2⟩ := X7 l
  rw [wQ, wQ, List.all_cons, Bool.and_eq_true, <- ih, List.length_cons]
  unfold dP
  by_cases h : (48 : Int) <= (c.toNat : Int) /\ (c.toNat : Int) <= 57
  . rw [if_pos h, if_neg (by omega)]
    simp [h]
    omega
  . rw [if_neg h]
    by_cases h2 : (c.toNat : Int) = 88
    . rw [if_pos (by omega)]
      simp [h2]
      omega
    . rw [if_neg (by omega)]
      simp [h, h2]
      omega
theorem XY (s : ByteArray) : (lH 48 57 s + lH 88 88 s = s.size) ↔ allB dP s = true := by
 have := (X7 s.data.toList).1
 unfold lH allB
 simpa using this
theorem aKT : ∀ l : List UInt8, (0 < pW 88 88 l) ↔ (l.any fun b => decide ((b.toNat : Int) = 88)) = true
 | [] => by simp [pW]
 | c :: l => by
  have ih := aKT l
  have := (FX 88 88 l).1
  rw [wQ, List.any_cons, Bool.or_eq_true, <- ih, decide_eq_true_iff]
  by_cases h : (c.toNat : Int) = 88
  . rw [if_pos (by omega)]; omega
  . rw [if_neg (by omega)]; omega
theorem aEJ (s : ByteArray) : (0 < lH 88 88 s) ↔ hasB 88 s = true := aKT _
theorem aCf (a : Int) : ∀ l : List UInt8, (pW a a l = l.length) ↔ (l.all fun b => decide ((b.toNat : Int) = a)) = true
 | [] => by simp [pW]
 | c :: l => by
  have ih := aCf a l
  have := (FX a a l).2
  rw [wQ, List.all_cons, Bool.and_eq_true, <- ih, decide_eq_true_iff, List.length_cons]
  by_cases h : (c.toNat : Int) = a
  . rw [if_pos (by omega)]; omega
  . rw [if_neg (by omega)]; omega
theorem aNy (s : ByteArray) (h : s.size = 4) : (lH 48 48 s = 4) ↔ allB isZ s = true := by
 have := aCf 48 s.data.toList
 unfold lH allB isZ
 have e : (s.data.toList.length : Int) = 4 := by simp; omega
 rw [e] at this
 exact this
theorem aCg : ∀ l : List UInt8, (l.all fun b => dP (b.toNat : Int)) = true -> ((l.any fun b => decide ((b.toNat : Int) = 88)) = false ↔ (l.all fun b => dG (b.toNat : Int)) = true)
 | [], _ => by simp
 | c :: l, h => by
  rw [List.all_cons, Bool.and_eq_true] at h
  have ih := aCg l h.2
  rw [List.any_cons, List.all_cons, Bool.or_eq_false_iff, Bool.and_eq_true, ih]
  have h1 := h.1
  unfold dP at h1
  unfold dG
  by_cases h2 : (c.toNat : Int) = 88
  . simp [h2]
  . simp [h2] at h1
    simp [h2, h1]
theorem kT {s : ByteArray} (h : allB dP s = true) : hasB 88 s = false ↔ allB dG s = true := aCg _ h
theorem vS {s : ByteArray} (h : allB dG s = true) : allB dP s = true := by
 rw [mG] at h ⊢
 intro i hi
 have := h i hi
 unfold dG at this
 unfold dP
 rw [this]; rfl
end Bk
end
section
namespace Bk
def pR (s : ByteArray) (k : Nat) : Int := if k <= s.size then (dec (s.data.toList.take k) 0 : Nat) else gB s * p10 (k - s.size)
theorem CJ (s : ByteArray) : pR s 0 = 0 := by unfold pR; rw [if_pos (Nat.zero_le _)]; rfl
theorem uX (s : ByteArray) (e : Nat) : pR s (s.size + e) = fO s e := by
 unfold pR fO
 by_cases h : s.size + e <= s.size
 . obtain rfl : e = 0 := by omega
   rw [if_pos h, List.take_of_length_le (by simp)]
   unfold gB p10
   simp
 . rw [if_neg h, show s.size + e - s.size = e by omega, Int.toNat_natCast]
theorem SX {s : ByteArray} (h : allB dG s = true) (k : Nat) (hk : k < s.size) : 48 <= ((s[k]'hk).toNat : Int) /\ ((s[k]'hk).toNat : Int) <= 57 := by
 have := (mG _ _).1 h k hk
 rw [bY s k hk] at this
 exact of_decide_eq_true this
theorem JO {s : ByteArray} (h : allB dG s = true) (k : Nat) (hk : k < s.size) : pR s (k + 1) = 10 * pR s k + (((s[k]'hk).toNat : Int) - 48) := by
 unfold pR
 rw [if_pos (by omega), if_pos (by omega), take_snoc s k hk, X3]
 have := SX h k hk
 omega
theorem XC (s : ByteArray) (k : Nat) (hk : s.size <= k) : pR s (k + 1) = 10 * pR s k := by
 unfold pR
 rw [if_neg (by omega)]
 by_cases c : k <= s.size
 . obtain rfl : k = s.size := by omega
   rw [if_pos c, show s.size + 1 - s.size = 1 by omega, List.take_of_length_le (by simp)]
   unfold gB p10
   omega
 . rw [if_neg c, show k + 1 - s.size = (k - s.size) + 1 by omega, VX]
   rw [<- Int.mul_assoc, Int.mul_comm]
theorem JM (s : ByteArray) (k : Nat) : 0 <= pR s k := by
 unfold pR
 split
 . omega
 . exact Int.mul_nonneg (AL s) (by have := aBu (k - s.size); omega)
theorem aDM {s : ByteArray} (h : allB dG s = true) (k : Nat) : pR s k <= pR s (k + 1) := by
 have := JM s k
 by_cases c : k < s.size
 . rw [JO h k c]; have := SX h k c; omega
 . rw [XC s k (by omega)]; omega
theorem wH {s : ByteArray} (h : allB dG s = true) (k : Nat) : ∀ j, pR s k <= pR s (k + j)
 | 0 => Int.le_refl _
 | j + 1 => Int.le_trans (wH h k j) (aDM h (k + j))
theorem lZ (s : ByteArray) (e : Int) : 0 <= fO s e := Int.mul_nonneg (AL s) (by have := aBu e.toNat; omega)
theorem DJ {s : ByteArray} (h : allB dG s = true) : s.data.toList.all aHl = true := by
 unfold allB at h
 rw [List.all_eq_true] at h ⊢
 intro c hc
 have := h c hc
 unfold dG at this
 have := of_decide_eq_true this
 unfold aHl
 rw [decide_eq_true_iff]
 omega
theorem aCc {s : ByteArray} (h : allB dG s = true) (hs : s.size <= 17) : gB s < 100000000000000000 := by
 have := dec_lt s.data.toList 0 0 (DJ h) (by decide)
 rw [Nat.zero_add] at this
 have hp : (10 : Nat) ^ s.data.toList.length <= 10 ^ 17 := Nat.pow_le_pow_right (by omega) (by simpa using hs)
 have hp2 : (10 : Nat) ^ 17 = 100000000000000000 := by decide
 unfold gB
 omega
theorem pF {s : ByteArray} (h : allB dG s = true) (hs : s.size = 4) : gB s < 10000 := by
 have := dec_lt s.data.toList 0 0 (DJ h) (by decide)
 rw [Nat.zero_add, show s.data.toList.length = 4 by simpa using hs] at this
 unfold gB
 omega
end Bk
end
section
namespace Bk
def dV (s : ByteArray) : Nat -> List Int
 | 0 => []
 | g + 1 => dV s g ++ (if jJ s ((g : Int) + 1) then [(g : Int) + 1] else [])
theorem oZ (s : ByteArray) (g : Nat) : dV s (g + 1) = dV s g ++ (if jJ s ((g : Int) + 1) then [(g : Int) + 1] else []) := rfl
theorem CW {s : ByteArray} {g : Nat} (h : jJ s ((g : Int) + 1) = true) : dV s (g + 1) = dV s g ++ [(g : Int) + 1] := by rw [oZ, if_pos h]
theorem J9 {s : ByteArray} {g : Nat} (h : jJ s ((g : Int) + 1) = false) : dV s (g + 1) = dV s g := by rw [oZ, if_neg (by rw [h]; decide), List.append_nil]
theorem nZ (s : ByteArray) : ∀ g, (dV s g).length <= g
 | 0 => Nat.le_refl _
 | g + 1 => by
  have := nZ s g
  rw [oZ, List.length_append]
  split <;> simp <;> omega
theorem iH (s : ByteArray) (n : Int) : ∀ g : Nat, n ∈ dV s g ↔ (1 <= n /\ n <= g /\ jJ s n = true)
 | 0 => by simp [dV]; omega
 | g + 1 => by
  have ih := iH s n g
  rw [oZ, List.mem_append, ih]
  by_cases h : jJ s ((g : Int) + 1) = true
  . rw [if_pos h, List.mem_singleton]
    constructor
    . rintro (⟨h1, h2, h3⟩ | rfl)
      . exact ⟨h1, by omega, h3⟩
      . exact ⟨by omega, by omega, h⟩
    . rintro ⟨h1, h2, h3⟩
      by_cases e : n = (g : Int) + 1
      . exact .inr e
      . exact .inl ⟨h1, by omega, h3⟩
  . rw [if_neg h]
    constructor
    . rintro (⟨h1, h2, h3⟩ | h)
      . exact ⟨h1, by omega, h3⟩
      . cases h
    . rintro ⟨h1, h2, h3⟩
      refine .inl ⟨h1, ?_, h3⟩
      by_cases e : n = (g : Int) + 1
      . subst e; exact absurd h3 h
      . omega
theorem nJ (s : ByteArray) : ∀ g, (dV s g).Pairwise (· < ·)
 | 0 => List.Pairwise.nil
 | g + 1 => by
  rw [oZ, List.pairwise_append]
  refine ⟨nJ s g, ?_, ?_⟩
  . split <;> simp
  . intro a ha b hb
    have := (iH s a g).1 ha
    split at hb
    . rw [List.mem_singleton] at hb; omega
    . cases hb
theorem aAS (s : ByteArray) (g : Nat) : eG s g = true ↔ dV s g ≠ [] := by
 rw [BL]
 constructor
 . rintro ⟨n, h1, h2, h3⟩ e
   have := (iH s n g).2 ⟨h1, h2, h3⟩
   rw [e] at this; cases this
 . intro h
   cases e : dV s g with
   | nil => exact absurd e h
   | cons a l =>
    have := (iH s a g).1 (by rw [e]; exact List.mem_cons_self ..)
    exact ⟨a, this⟩
def Dt.ms (d : Dt) : List Int := if d.aH ≠ 0 then [d.aH] else if d.mo.size = 0 then [0] else dV d.mo 12
def Dt.ds (d : Dt) : List Int := if d.da.size = 0 then [0] else dV d.da 31
def Dt.len (d : Dt) (y m : Int) : Int := if d.da.size = 0 then 0 else Cal.len y m
theorem Dt.OA (d : Dt) : d.ms.Pairwise (· < ·) := by
 unfold Dt.ms; split
 . simp
 . split
   . simp
   . exact nJ _ _
theorem Dt.OO (d : Dt) : d.ds.Pairwise (· < ·) := by
 unfold Dt.ds; split
 . simp
 . exact nJ _ _
theorem Dt.QJ (d : Dt) : d.ms.length <= 12 := by
 unfold Dt.ms; split
 . simp
 . split
   . simp
   . exact nZ _ _
theorem Dt.aAY (d : Dt) : d.ds.length <= 31 := by
 unfold Dt.ds; split
 . simp
 . exact nZ _ _
def Dt.Fill (d : Dt) (y m k : Int) : Prop := d.In y /\ m ∈ d.ms /\ k ∈ d.ds /\ k <= d.len y m
def Dt.ge (d : Dt) (y m k cy cm ck : Int) : Prop := cy < y \/ (y = cy /\ (d.mo.size = 0 \/ cm < m \/ (m = cm /\ (d.da.size = 0 \/ ck <= k))))
def lt3 (y m k z n j : Int) : Prop := y < z \/ (y = z /\ (m < n \/ (m = n /\ k < j)))
def Dt.jP (d : Dt) (cy cm ck : Int) (y m k : Int) (found : Bool) : Prop :=
 (found = true /\ d.Fill y m k /\ d.ge y m k cy cm ck /\ ∀ z n j, d.Fill z n j -> d.ge z n j cy cm ck -> ¬ lt3 z n j y m k) \/
 (found = false /\ y = 0 /\ m = 0 /\ k = 0 /\ ∀ z n j, d.Fill z n j -> ¬ d.ge z n j cy cm ck)
def Dt.Year (d : Dt) (n v : Int) (ok : Bool) : Prop :=
 (ok = true /\ d.In v /\ n <= v /\ ∀ u, d.In u -> n <= u -> v <= u) \/ (ok = false /\ ∀ u, d.In u -> ¬ n <= u)
def Dt.NoM (d : Dt) (y cy cm ck : Int) (i : Nat) : Prop := ∀ j, j < i -> ∀ (h : j < d.ms.length), ∀ k, k ∈ d.ds -> k <= d.len y (d.ms[j]'h) -> ¬ d.ge y (d.ms[j]'h) k cy cm ck
def Dt.NoK (d : Dt) (y m cy cm ck : Int) (i : Nat) : Prop := ∀ j, j < i -> ∀ (h : j < d.ds.length), (d.ds[j]'h) <= d.len y m -> ¬ d.ge y m (d.ds[j]'h) cy cm ck
def Dt.NoY (d : Dt) (y cy cm ck : Int) : Prop := ∀ z n j, d.Fill z n j -> z < y -> ¬ d.ge z n j cy cm ck
theorem Dt.aGr (d : Dt) (y cy cm ck : Int) : d.NoM y cy cm ck 0 := fun j h => by omega
theorem Dt.aGu (d : Dt) (y m cy cm ck : Int) : d.NoK y m cy cm ck 0 := fun j h => by omega
theorem Dt.aGv {d : Dt} {y m cy cm ck : Int} {i : Nat} (h : d.NoK y m cy cm ck i) (hi : i < d.ds.length) (hn : (d.ds[i]'hi) <= d.len y m -> ¬ d.ge y m (d.ds[i]'hi) cy cm ck) : d.NoK y m cy cm ck (i + 1) := by
 intro j hj hl
 by_cases e : j = i
 . subst e; exact hn
 . exact h j (by omega) hl
theorem Dt.aGs {d : Dt} {y cy cm ck : Int} {i : Nat} (h : d.NoM y cy cm ck i) (hi : i < d.ms.length) (hn : d.NoK y (d.ms[i]'hi) cy cm ck d.ds.length) : d.NoM y cy cm ck (i + 1) := by
 intro j hj hl
 by_cases e : j = i
 . subst e
   intro k hk hkl
   obtain ⟨a, ha, rfl⟩ := List.getElem_of_mem hk
   exact hn a ha ha hkl
 . exact h j (by omega) hl
theorem Dt.aGt {d : Dt} {y cy cm ck : Int} {i : Nat} (h : d.NoM y cy cm ck i) (hi : i < d.ms.length) (hy : y = cy) (hm : d.mo.size ≠ 0) (hlt : (d.ms[i]'hi) < cm) : d.NoM y cy cm ck (i + 1) := by
 intro j hj hl
 by_cases e : j = i
 . subst e
   rintro k hk hkl (g | ⟨g, g | g | ⟨g, _⟩⟩) <;> omega
 . exact h j (by omega) hl
theorem Dt.aGq {d : Dt} {y v cy cm ck : Int} {ok : Bool} (h : d.NoY y cy cm ck) (hm : d.NoM y cy cm ck d.ms.length) (hy : d.Year (y + 1) v ok) :
 (ok = true -> d.NoY v cy cm ck) /\ (ok = false -> ∀ z n j, d.Fill z n j -> ¬ d.ge z n j cy cm ck) := by
 have key : ∀ z n j, d.Fill z n j -> z <= y -> ¬ d.ge z n j cy cm ck := by
  intro z n j hf hz
  by_cases e : z = y
  . subst e
    obtain ⟨h1, h2, h3, h4⟩ := hf
    obtain ⟨a, ha, rfl⟩ := List.getElem_of_mem h2
    exact hm a ha ha j h3 h4
  . exact h z n j hf (by omega)
 constructor
 . rintro rfl z n j hf hz
   rcases hy with ⟨_, _, _, hmin⟩ | ⟨h, _⟩
   . exact key z n j hf (by have := hmin z hf.1; omega)
   . cases h
 . rintro rfl z n j hf
   rcases hy with ⟨h, _⟩ | ⟨_, hno⟩
   . cases h
   . exact key z n j hf (by have := hno z hf.1; omega)
theorem Dt.aDy {d : Dt} {v cy cm ck : Int} {ok : Bool} (hy : d.Year cy v ok) :
 (ok = true -> d.NoY v cy cm ck) /\ (ok = false -> ∀ z n j, d.Fill z n j -> ¬ d.ge z n j cy cm ck) := by
 have low : ∀ z n j, z < cy -> ¬ d.ge z n j cy cm ck := by rintro z n j h (g | ⟨g, _⟩) <;> omega
 constructor
 . rintro rfl z n j hf hz
   rcases hy with ⟨_, _, _, hmin⟩ | ⟨h, _⟩
   . exact low z n j (by have := hmin z hf.1; omega)
   . cases h
 . rintro rfl z n j hf
   rcases hy with ⟨h, _⟩ | ⟨_, hno⟩
   . cases h
   . exact low z n j (by have := hno z hf.1; omega)
theorem NG {l : List Int} (hs : l.Pairwise (· < ·)) {i j : Nat} (hi : i < l.length) (hj : j < l.length) (h : (l[j]'hj) < (l[i]'hi)) : j < i := by
 by_cases c : j < i
 . exact c
 . exfalso
   by_cases e : i = j
   . subst e; omega
   . have := List.pairwise_iff_getElem.1 hs i j hi hj (by omega)
     omega
theorem Dt.found {d : Dt} {y cy cm ck : Int} {i j : Nat} (hY : d.In y) (hN : d.NoY y cy cm ck) (hM : d.NoM y cy cm ck i) (hi : i < d.ms.length) (hK : d.NoK y (d.ms[i]'hi) cy cm ck j) (hj : j < d.ds.length)
 (hl : (d.ds[j]'hj) <= d.len y (d.ms[i]'hi)) (hg : d.ge y (d.ms[i]'hi) (d.ds[j]'hj) cy cm ck) : d.jP cy cm ck y (d.ms[i]'hi) (d.ds[j]'hj) true := by
 refine .inl ⟨rfl, ⟨hY, List.getElem_mem hi, List.getElem_mem hj, hl⟩, hg, ?_⟩
 intro z n k hf hge hlt
 rcases hlt with h | ⟨rfl, h | ⟨rfl, h⟩⟩
 . exact hN z n k hf h hge
 . obtain ⟨_, h2, h3, h4⟩ := hf
   obtain ⟨a, ha, rfl⟩ := List.getElem_of_mem h2
   exact hM a (NG d.OA hi ha h) ha k h3 h4 hge
 . obtain ⟨_, h2, h3, h4⟩ := hf
   obtain ⟨a, ha, rfl⟩ := List.getElem_of_mem h3
   exact hK a (NG d.OO hj ha h) ha h4 hge
def Dt.Is (d : Dt) (y m k cy cm ck : Int) : Bool := decide (y = cy) && ((decide (d.mo.size = 0) || decide (m = cm)) && (decide (d.da.size = 0) || decide (k = ck)))
theorem Dt.ZP {d : Dt} {y m k cy cm ck : Int} {found : Bool} (hd : d.mo.size = 0 -> d.da.size = 0) (h : d.jP cy cm ck y m k found) :
 (found && d.Is y m k cy cm ck) = true ↔ ∃ n j, d.Fill cy n j /\ (d.mo.size = 0 \/ n = cm) /\ (d.da.size = 0 \/ j = ck) := by
 unfold Dt.Is
 simp only [Bool.and_eq_true, Bool.or_eq_true, decide_eq_true_eq]
 constructor
 . rintro ⟨rfl, rfl, hm, hk⟩
   rcases h with ⟨_, hf, _⟩ | ⟨h, _⟩
   . exact ⟨m, k, hf, hm, hk⟩
   . cases h
 . rintro ⟨n, j, hf, hn, hj⟩
   have hge : d.ge cy n j cy cm ck := by
    refine .inr ⟨rfl, ?_⟩
    rcases hn with h | h
    . exact .inl h
    . refine .inr (.inr ⟨h, ?_⟩)
      rcases hj with g | g
      . exact .inl g
      . exact .inr (by omega)
   rcases h with ⟨rfl, hF, hG, hmin⟩ | ⟨_, _, _, _, hno⟩
   . have hnl := hmin cy n j hf hge
     have hy : y = cy := by
      rcases hG with g | ⟨g, _⟩
      . exact absurd (.inl g) hnl
      . exact g
     subst hy
     refine ⟨rfl, rfl, ?_⟩
     by_cases h0 : d.mo.size = 0
     . exact ⟨.inl h0, .inl (hd h0)⟩
     . have hn : n = cm := by rcases hn with g | g; exact absurd g h0; exact g
       subst hn
       rcases hG with g | ⟨_, g | g | ⟨rfl, g⟩⟩
       . omega
       . exact absurd g h0
       . exact absurd (.inr ⟨rfl, .inl g⟩) hnl
       . refine ⟨.inr rfl, ?_⟩
         by_cases h1 : d.da.size = 0
         . exact .inl h1
         . right
           have hj : j = ck := by rcases hj with g | g; exact absurd g h1; exact g
           have hg : ck <= k := by rcases g with g | g; exact absurd g h1; exact g
           by_cases c : k = ck
           . exact c
           . exact absurd (.inr ⟨rfl, .inr ⟨rfl, by omega⟩⟩) hnl
   . exact absurd hge (hno cy n j hf)
theorem Dt.U6 {d : Dt} {y m k cy cm ck : Int} {found : Bool} (hb : ∀ u, d.In u -> cy < u) (h : d.jP cy cm ck y m k found) : found = true ↔ ∃ y m k, d.Fill y m k := by
 constructor
 . rintro rfl
   rcases h with ⟨_, hf, _⟩ | ⟨h, _⟩
   . exact ⟨_, _, _, hf⟩
   . cases h
 . rintro ⟨z, n, j, hf⟩
   rcases h with ⟨h, _⟩ | ⟨_, _, _, _, hno⟩
   . exact h
   . exact absurd (.inl (hb z hf.1)) (hno z n j hf)
open Classical in
noncomputable def Dt.err (d : Dt) : Int := if d.form ≠ 0 then d.form else if d.da.size ≠ 0 /\ ¬ ∃ y m k, d.Fill y m k then 8 else 0
theorem XB (a b c n : Int) : eY a b c n = 0 \/ eY a b c n = 9 := by unfold eY; split; exact .inl rfl; exact .inr rfl
theorem Dt.jO {d : Dt} (h : d.form = 0) : d.mO = true /\ (d.mo.size = 0 \/ d.aH ≠ 0 \/ eG d.mo 12 = true) /\ (d.da.size = 0 \/ (d.mo.size ≠ 0 /\ d.aH = 0 /\ eG d.da 31 = true)) /\ eY d.m0 d.m1 d.m2 (comps d.mo d.da) = 0 := by
 unfold Dt.form at h
 split at h
 . omega
 . rename_i h1
   split at h
   . omega
   . rename_i h2
     split at h
     . omega
     . rename_i h3
       refine ⟨by simpa using h1, ?_, ?_, h⟩
       . by_cases c : d.mo.size = 0
         . exact .inl c
         . right
           by_cases c2 : d.aH = 0
           . right
             cases e3 : eG d.mo 12
             . exact absurd (by rw [decide_eq_false c, decide_eq_true c2, e3]; rfl) h2
             . rfl
           . exact .inl c2
       . by_cases c : d.da.size = 0
         . exact .inl c
         . right
           have c1 : ¬ d.mo.size = 0 := fun e1 => h3 (by rw [decide_eq_true e1, decide_eq_false c]; rfl)
           have c2 : d.aH = 0 := by
            by_cases e2 : d.aH = 0
            . exact e2
            . exact absurd (by rw [decide_eq_false c1, decide_eq_false c, decide_eq_false e2]; rfl) h3
           refine ⟨c1, c2, ?_⟩
           cases e3 : eG d.da 31
           . exact absurd (by rw [decide_eq_false c1, decide_eq_false c, decide_eq_true c2, e3]; rfl) h3
           . rfl
theorem Dt.gK {d : Dt} (h : d.mO = true) : d.PK = true /\ (0 < d.sig -> d.mo.size = 0) /\ d.far = false := by
 unfold Dt.mO at h
 rw [Bool.and_eq_true, Bool.and_eq_true] at h
 obtain ⟨h1, h2, h3⟩ := h
 refine ⟨h1, fun hs => ?_, by cases e : d.far; rfl; rw [e] at h3; cases h3⟩
 by_cases c : d.mo.size = 0
 . exact c
 . rw [decide_eq_true hs, decide_eq_false c] at h2; cases h2
theorem Dt.tH {d : Dt} (h : d.PK = true) {y : Int} (hy : d.In y) : -10000000000000000 <= y /\ y <= 10000000000000000 := by
 unfold Dt.In at hy
 by_cases c : d.mask = true
 . rw [if_pos c] at hy
   split at hy
   . obtain ⟨⟨h1, h2, _⟩, _⟩ := hy; omega
   . obtain ⟨h1, h2, _⟩ := hy; omega
 . rw [if_neg c] at hy
   have h0 := lZ d.dg d.ex
   have h1 : fO d.dg d.ex <= 10000000000000000 := by
    unfold Dt.PK at h
    cases hl : d.long
    . rw [hl] at h
      obtain ⟨h1, h2, h3, _⟩ := iF h
      have hd := (kT h2).1 (by unfold Dt.mask at c; simpa using c)
      have := pF hd h1
      have hz : fO d.dg 0 = gB d.dg := by unfold fO p10; simp
      rw [h3, hz]; omega
    . rw [hl] at h
      exact (jD h).2.2.2.2.2.2.1
   unfold Dt.mag at hy
   split at hy <;> omega
end Bk
end
section
namespace Bk
theorem OD {b o : Nat -> Int} (hb : MOk b) (ho : ∀ i, i < 4 -> o i = if b i = 88 then 48 else b i) : oC b (dD o) /\ ∀ f, oC b f -> dD o <= f := by
 have m0 := hb 0 (by omega); have m1 := hb 1 (by omega); have m2 := hb 2 (by omega); have m3 := hb 3 (by omega)
 have o0 := ho 0 (by omega); have o1 := ho 1 (by omega); have o2 := ho 2 (by omega); have o3 := ho 3 (by omega)
 simp only [nH]
 unfold dD
 generalize b 0 = b0 at *; generalize b 1 = b1 at *; generalize b 2 = b2 at *; generalize b 3 = b3 at *
 constructor
 . refine ⟨o 0 - 48, o 1 - 48, o 2 - 48, o 3 - 48, ?_⟩
   split at o0 <;> split at o1 <;> split at o2 <;> split at o3 <;> (refine ⟨?_, ?_, ?_, ?_, ?_, ?_, ?_, ?_, ?_, ?_, ?_, ?_, ?_⟩ <;> omega)
 . rintro f ⟨d0, d1, d2, d3, a0, a1, a2, a3, a4, a5, a6, a7, rfl, e0, e1, e2, e3⟩
   split at o0 <;> split at o1 <;> split at o2 <;> split at o3 <;> omega
theorem zQ {b o : Nat -> Int} (hb : MOk b) (ho : ∀ i, i < 4 -> o i = if b i = 88 then 57 else b i) : oC b (dD o) /\ ∀ f, oC b f -> f <= dD o := by
 have m0 := hb 0 (by omega); have m1 := hb 1 (by omega); have m2 := hb 2 (by omega); have m3 := hb 3 (by omega)
 have o0 := ho 0 (by omega); have o1 := ho 1 (by omega); have o2 := ho 2 (by omega); have o3 := ho 3 (by omega)
 simp only [nH]
 unfold dD
 generalize b 0 = b0 at *; generalize b 1 = b1 at *; generalize b 2 = b2 at *; generalize b 3 = b3 at *
 constructor
 . refine ⟨o 0 - 48, o 1 - 48, o 2 - 48, o 3 - 48, ?_⟩
   split at o0 <;> split at o1 <;> split at o2 <;> split at o3 <;> (refine ⟨?_, ?_, ?_, ?_, ?_, ?_, ?_, ?_, ?_, ?_, ?_, ?_, ?_⟩ <;> omega)
 . rintro f ⟨d0, d1, d2, d3, a0, a1, a2, a3, a4, a5, a6, a7, rfl, e0, e1, e2, e3⟩
   split at o0 <;> split at o1 <;> split at o2 <;> split at o3 <;> omega
def mM (b : Nat -> Int) (n v e : Int) : Prop := (e = 0 /\ oC b v /\ n <= v /\ ∀ f, oC b f -> n <= f -> v <= f) \/ (e = 16 /\ v = 0 /\ ∀ f, oC b f -> f < n)
def pJ (b : Nat -> Int) (n v e : Int) : Prop := (e = 0 /\ oC b v /\ v <= n /\ ∀ f, oC b f -> f <= n -> f <= v) \/ (e = 16 /\ v = 0 /\ ∀ f, oC b f -> n < f)
theorem WZ {b : Nat -> Int} {n v e : Int} (h : mM b n v e) : 0 <= v /\ v <= 9999 /\ (e = 0 \/ e = 16) := by
 rcases h with ⟨h1, ⟨h2, h3, _⟩, _⟩ | ⟨h1, h2, _⟩ <;> omega
theorem y9 {b : Nat -> Int} {n v e : Int} (h : pJ b n v e) : 0 <= v /\ v <= 9999 /\ (e = 0 \/ e = 16) := by
 rcases h with ⟨h1, ⟨h2, h3, _⟩, _⟩ | ⟨h1, h2, _⟩ <;> omega
end Bk
end
section
open Go.RowKit
namespace Bk
open Un (ba bt ri rb aX bP)
theorem wY (n : Int) (w : World) : Calls Tryz.prog 130 #[.int .i64 n] w fun r w' => r = .returned (.int .i64 (if 21 <= n /\ n <= 41 then 0 else 7)) /\ w = w' := by
 by_cases a : n < 21
 . go_enter Tryz.func130, Tryz.ntmps130
   go_wp2
   go_ret
   exact ⟨by first | rfl | exact ri (by rw [if_neg (by omega)]), rfl⟩
 . by_cases b : 42 <= n
   . go_enter Tryz.func130, Tryz.ntmps130
     go_wp2
     go_ret
     exact ⟨by first | rfl | exact ri (by rw [if_neg (by omega)]), rfl⟩
   . go_enter Tryz.func130, Tryz.ntmps130
     go_wp2
     go_ret
     exact ⟨by first | rfl | exact ri (by rw [if_pos (by omega)]), rfl⟩
theorem aK (n : Int) (w : World) (h0 : 0 <= n) : Calls Tryz.prog 135 #[.int .u8 n] w fun r w' => r = .returned (.int .i64 (if n <= 3 then 0 else 9)) /\ w = w' := by
 by_cases a : 3 < n
 . go_enter Tryz.func135, Tryz.ntmps135
   go_wp2
   go_ret
   exact ⟨by first | rfl | exact ri (by rw [if_neg (by omega)]), rfl⟩
 . go_enter Tryz.func135, Tryz.ntmps135
   go_wp2
   go_ret
   exact ⟨by first | rfl | exact ri (by rw [if_pos (by omega)]), rfl⟩
theorem QV (a b c n : Int) (w : World) (a0 : 0 <= a) (b0 : 0 <= b) (c0 : 0 <= c) (n0 : 1 <= n) (n1 : n <= 3) :
 Calls Tryz.prog 108 #[.agg #[.int .u8 a, .int .u8 b, .int .u8 c], .int .i64 n] w fun r w' => r = .returned (.int .i64 (eY a b c n)) /\ Below w.heap.size w w' := by
 have i0 : ∀ w, (Instr.index 26 (.agg #[.int .u8 a, .int .u8 b, .int .u8 c]) (.int .i64 0)).run Tryz.prog w = .ok (.int .u8 a) w := fun _ => by kernel_rfl
 have i1 : ∀ w, (Instr.index 26 (.agg #[.int .u8 a, .int .u8 b, .int .u8 c]) (.int .i64 1)).run Tryz.prog w = .ok (.int .u8 b) w := fun _ => by kernel_rfl
 have i2 : ∀ w, (Instr.index 26 (.agg #[.int .u8 a, .int .u8 b, .int .u8 c]) (.int .i64 2)).run Tryz.prog w = .ok (.int .u8 c) w := fun _ => by kernel_rfl
 by_cases h : eY a b c n = 0
 . have hh : a <= 3 /\ b <= 3 /\ c <= 3 /\ (n < 3 -> c = 0) /\ (n < 2 -> b = 0) := by
    unfold eY at h; split at h
    . assumption
    . cases h
   rw [h]; clear h
   obtain ⟨ha, hb, hc, h3, h2⟩ := hh
   have HA := fun w => aK a w a0; rw [if_pos ha] at HA
   have HB := fun w => aK b w b0; rw [if_pos hb] at HB
   have HC := fun w => aK c w c0; rw [if_pos hc] at HC
   replace HA := Lib.hid HA; replace HB := Lib.hid HB; replace HC := Lib.hid HC
   obtain rfl | rfl | rfl : n = 1 \/ n = 2 \/ n = 3 := by omega
   . obtain rfl := h3 (by omega); obtain rfl := h2 (by omega)
     clear h3 h2
     go_enter Tryz.func108, Tryz.ntmps108
     go_wp2
     refine wp_loop_rounds 4 ?_
     rw [rounds_succ]
     go_wp2_with (go_at_call 135; refine (HA.out _).mono ?_; rintro e w' ⟨rfl, rfl⟩)
     rw [rounds_succ]
     go_wp2_with (go_at_call 135; refine (HB.out _).mono ?_; rintro e w' ⟨rfl, rfl⟩)
     rw [rounds_succ]
     go_wp2_with (go_at_call 135; refine (HC.out _).mono ?_; rintro e w' ⟨rfl, rfl⟩)
     rw [rounds_succ]
     go_wp2
     go_ret
     exact ⟨rfl, ba (Below.refl _ _) _⟩
   . obtain rfl := h3 (by omega)
     clear h3 h2
     go_enter Tryz.func108, Tryz.ntmps108
     go_wp2
     refine wp_loop_rounds 4 ?_
     rw [rounds_succ]
     go_wp2_with (go_at_call 135; refine (HA.out _).mono ?_; rintro e w' ⟨rfl, rfl⟩)
     rw [rounds_succ]
     go_wp2_with (go_at_call 135; refine (HB.out _).mono ?_; rintro e w' ⟨rfl, rfl⟩)
     rw [rounds_succ]
     go_wp2_with (go_at_call 135; refine (HC.out _).mono ?_; rintro e w' ⟨rfl, rfl⟩)
     rw [rounds_succ]
     go_wp2
     go_ret
     exact ⟨rfl, ba (Below.refl _ _) _⟩
   . clear h3 h2
     go_enter Tryz.func108, Tryz.ntmps108
     go_wp2
     refine wp_loop_rounds 4 ?_
     rw [rounds_succ]
     go_wp2_with (go_at_call 135; refine (HA.out _).mono ?_; rintro e w' ⟨rfl, rfl⟩)
     rw [rounds_succ]
     go_wp2_with (go_at_call 135; refine (HB.out _).mono ?_; rintro e w' ⟨rfl, rfl⟩)
     rw [rounds_succ]
     go_wp2_with (go_at_call 135; refine (HC.out _).mono ?_; rintro e w' ⟨rfl, rfl⟩)
     rw [rounds_succ]
     go_wp2
     go_ret
     exact ⟨rfl, ba (Below.refl _ _) _⟩
 . by_cases ha : 3 < a
   . skip
     have HA := fun w => aK a w a0; rw [if_neg (by omega)] at HA; replace HA := Lib.hid HA
     clear h
     go_enter Tryz.func108, Tryz.ntmps108
     go_wp2
     refine wp_loop_rounds 4 ?_
     rw [rounds_succ]
     go_wp2_with (go_at_call 135; with_reducible refine (HA.out _).mono ?_; rintro e w' ⟨rfl, rfl⟩)
     go_ret
     exact ⟨ri (by unfold eY; rw [if_neg (by omega)]), ba (Below.refl _ _) _⟩
   . obtain rfl | rfl | rfl : n = 1 \/ n = 2 \/ n = 3 := by omega
     . by_cases hb : b = 0
       . subst hb
         have hb0 : (0 : Int) <= 3 := by omega
         have hc : c ≠ 0 := by rintro rfl; exact h (by unfold eY; rw [if_pos (by omega)])
         by_cases hc3 : c <= 3
         . skip
           have HA := fun w => aK a w a0; rw [if_pos (by omega)] at HA; replace HA := Lib.hid HA
           have HB := fun w => aK 0 w (Int.le_refl _); rw [if_pos (by omega)] at HB; replace HB := Lib.hid HB
           have HC := fun w => aK c w c0; rw [if_pos (by omega)] at HC; replace HC := Lib.hid HC
           clear h
           go_enter Tryz.func108, Tryz.ntmps108
           go_wp2
           refine wp_loop_rounds 4 ?_
           rw [rounds_succ]
           go_wp2_with (go_at_call 135; (first | with_reducible refine (HA.out _).mono ?_ | with_reducible refine (HB.out _).mono ?_ | with_reducible refine (HC.out _).mono ?_); rintro e w' ⟨rfl, rfl⟩)
           rw [rounds_succ]
           go_wp2_with (go_at_call 135; (first | with_reducible refine (HA.out _).mono ?_ | with_reducible refine (HB.out _).mono ?_ | with_reducible refine (HC.out _).mono ?_); rintro e w' ⟨rfl, rfl⟩)
           rw [rounds_succ]
           go_wp2_with (go_at_call 135; (first | with_reducible refine (HA.out _).mono ?_ | with_reducible refine (HB.out _).mono ?_ | with_reducible refine (HC.out _).mono ?_); rintro e w' ⟨rfl, rfl⟩)
           go_ret
           exact ⟨ri (by unfold eY; rw [if_neg (by omega)]), ba (Below.refl _ _) _⟩
         . skip
           have HA := fun w => aK a w a0; rw [if_pos (by omega)] at HA; replace HA := Lib.hid HA
           have HB := fun w => aK 0 w (Int.le_refl _); rw [if_pos (by omega)] at HB; replace HB := Lib.hid HB
           have HC := fun w => aK c w c0; rw [if_neg (by omega)] at HC; replace HC := Lib.hid HC
           clear h
           go_enter Tryz.func108, Tryz.ntmps108
           go_wp2
           refine wp_loop_rounds 4 ?_
           rw [rounds_succ]
           go_wp2_with (go_at_call 135; (first | with_reducible refine (HA.out _).mono ?_ | with_reducible refine (HB.out _).mono ?_ | with_reducible refine (HC.out _).mono ?_); rintro e w' ⟨rfl, rfl⟩)
           rw [rounds_succ]
           go_wp2_with (go_at_call 135; (first | with_reducible refine (HA.out _).mono ?_ | with_reducible refine (HB.out _).mono ?_ | with_reducible refine (HC.out _).mono ?_); rintro e w' ⟨rfl, rfl⟩)
           rw [rounds_succ]
           go_wp2_with (go_at_call 135; (first | with_reducible refine (HA.out _).mono ?_ | with_reducible refine (HB.out _).mono ?_ | with_reducible refine (HC.out _).mono ?_); rintro e w' ⟨rfl, rfl⟩)
           go_ret
           exact ⟨ri (by unfold eY; rw [if_neg (by omega)]), ba (Below.refl _ _) _⟩
       . by_cases hb3 : b <= 3
         . skip
           have HA := fun w => aK a w a0; rw [if_pos (by omega)] at HA; replace HA := Lib.hid HA
           have HB := fun w => aK b w b0; rw [if_pos (by omega)] at HB; replace HB := Lib.hid HB
           clear h
           go_enter Tryz.func108, Tryz.ntmps108
           go_wp2
           refine wp_loop_rounds 4 ?_
           rw [rounds_succ]
           go_wp2_with (go_at_call 135; (first | with_reducible refine (HA.out _).mono ?_ | with_reducible refine (HB.out _).mono ?_); rintro e w' ⟨rfl, rfl⟩)
           rw [rounds_succ]
           go_wp2_with (go_at_call 135; (first | with_reducible refine (HA.out _).mono ?_ | with_reducible refine (HB.out _).mono ?_); rintro e w' ⟨rfl, rfl⟩)
           go_ret
           exact ⟨ri (by unfold eY; rw [if_neg (by omega)]), ba (Below.refl _ _) _⟩
         . skip
           have HA := fun w => aK a w a0; rw [if_pos (by omega)] at HA; replace HA := Lib.hid HA
           have HB := fun w => aK b w b0; rw [if_neg (by omega)] at HB; replace HB := Lib.hid HB
           clear h
           go_enter Tryz.func108, Tryz.ntmps108
           go_wp2
           refine wp_loop_rounds 4 ?_
           rw [rounds_succ]
           go_wp2_with (go_at_call 135; (first | with_reducible refine (HA.out _).mono ?_ | with_reducible refine (HB.out _).mono ?_); rintro e w' ⟨rfl, rfl⟩)
           rw [rounds_succ]
           go_wp2_with (go_at_call 135; (first | with_reducible refine (HA.out _).mono ?_ | with_reducible refine (HB.out _).mono ?_); rintro e w' ⟨rfl, rfl⟩)
           go_ret
           exact ⟨ri (by unfold eY; rw [if_neg (by omega)]), ba (Below.refl _ _) _⟩
     . by_cases hb3 : b <= 3
       . have hc : c ≠ 0 := by rintro rfl; exact h (by unfold eY; rw [if_pos (by omega)])
         by_cases hc3 : c <= 3
         . skip
           have HA := fun w => aK a w a0; rw [if_pos (by omega)] at HA; replace HA := Lib.hid HA
           have HB := fun w => aK b w b0; rw [if_pos (by omega)] at HB; replace HB := Lib.hid HB
           have HC := fun w => aK c w c0; rw [if_pos (by omega)] at HC; replace HC := Lib.hid HC
           clear h
           go_enter Tryz.func108, Tryz.ntmps108
           go_wp2
           refine wp_loop_rounds 4 ?_
           rw [rounds_succ]
           go_wp2_with (go_at_call 135; (first | with_reducible refine (HA.out _).mono ?_ | with_reducible refine (HB.out _).mono ?_ | with_reducible refine (HC.out _).mono ?_); rintro e w' ⟨rfl, rfl⟩)
           rw [rounds_succ]
           go_wp2_with (go_at_call 135; (first | with_reducible refine (HA.out _).mono ?_ | with_reducible refine (HB.out _).mono ?_ | with_reducible refine (HC.out _).mono ?_); rintro e w' ⟨rfl, rfl⟩)
           rw [rounds_succ]
           go_wp2_with (go_at_call 135; (first | with_reducible refine (HA.out _).mono ?_ | with_reducible refine (HB.out _).mono ?_ | with_reducible refine (HC.out _).mono ?_); rintro e w' ⟨rfl, rfl⟩)
           go_ret
           exact ⟨ri (by unfold eY; rw [if_neg (by omega)]), ba (Below.refl _ _) _⟩
         . skip
           have HA := fun w => aK a w a0; rw [if_pos (by omega)] at HA; replace HA := Lib.hid HA
           have HB := fun w => aK b w b0; rw [if_pos (by omega)] at HB; replace HB := Lib.hid HB
           have HC := fun w => aK c w c0; rw [if_neg (by omega)] at HC; replace HC := Lib.hid HC
           clear h
           go_enter Tryz.func108, Tryz.ntmps108
           go_wp2
           refine wp_loop_rounds 4 ?_
           rw [rounds_succ]
           go_wp2_with (go_at_call 135; (first | with_reducible refine (HA.out _).mono ?_ | with_reducible refine (HB.out _).mono ?_ | with_reducible refine (HC.out _).mono ?_); rintro e w' ⟨rfl, rfl⟩)
           rw [rounds_succ]
           go_wp2_with (go_at_call 135; (first | with_reducible refine (HA.out _).mono ?_ | with_reducible refine (HB.out _).mono ?_ | with_reducible refine (HC.out _).mono ?_); rintro e w' ⟨rfl, rfl⟩)
           rw [rounds_succ]
           go_wp2_with (go_at_call 135; (first | with_reducible refine (HA.out _).mono ?_ | with_reducible refine (HB.out _).mono ?_ | with_reducible refine (HC.out _).mono ?_); rintro e w' ⟨rfl, rfl⟩)
           go_ret
           exact ⟨ri (by unfold eY; rw [if_neg (by omega)]), ba (Below.refl _ _) _⟩
       . skip
         have HA := fun w => aK a w a0; rw [if_pos (by omega)] at HA; replace HA := Lib.hid HA
         have HB := fun w => aK b w b0; rw [if_neg (by omega)] at HB; replace HB := Lib.hid HB
         clear h
         go_enter Tryz.func108, Tryz.ntmps108
         go_wp2
         refine wp_loop_rounds 4 ?_
         rw [rounds_succ]
         go_wp2_with (go_at_call 135; (first | with_reducible refine (HA.out _).mono ?_ | with_reducible refine (HB.out _).mono ?_); rintro e w' ⟨rfl, rfl⟩)
         rw [rounds_succ]
         go_wp2_with (go_at_call 135; (first | with_reducible refine (HA.out _).mono ?_ | with_reducible refine (HB.out _).mono ?_); rintro e w' ⟨rfl, rfl⟩)
         go_ret
         exact ⟨ri (by unfold eY; rw [if_neg (by omega)]), ba (Below.refl _ _) _⟩
     . by_cases hb3 : b <= 3
       . have hc : ¬ c <= 3 := by intro hc; exact h (by unfold eY; rw [if_pos (by omega)])
         have HA := fun w => aK a w a0; rw [if_pos (by omega)] at HA; replace HA := Lib.hid HA
         have HB := fun w => aK b w b0; rw [if_pos (by omega)] at HB; replace HB := Lib.hid HB
         have HC := fun w => aK c w c0; rw [if_neg (by omega)] at HC; replace HC := Lib.hid HC
         clear h
         go_enter Tryz.func108, Tryz.ntmps108
         go_wp2
         refine wp_loop_rounds 4 ?_
         rw [rounds_succ]
         go_wp2_with (go_at_call 135; (first | with_reducible refine (HA.out _).mono ?_ | with_reducible refine (HB.out _).mono ?_ | with_reducible refine (HC.out _).mono ?_); rintro e w' ⟨rfl, rfl⟩)
         rw [rounds_succ]
         go_wp2_with (go_at_call 135; (first | with_reducible refine (HA.out _).mono ?_ | with_reducible refine (HB.out _).mono ?_ | with_reducible refine (HC.out _).mono ?_); rintro e w' ⟨rfl, rfl⟩)
         rw [rounds_succ]
         go_wp2_with (go_at_call 135; (first | with_reducible refine (HA.out _).mono ?_ | with_reducible refine (HB.out _).mono ?_ | with_reducible refine (HC.out _).mono ?_); rintro e w' ⟨rfl, rfl⟩)
         go_ret
         exact ⟨ri (by unfold eY; rw [if_neg (by omega)]), ba (Below.refl _ _) _⟩
       . skip
         have HA := fun w => aK a w a0; rw [if_pos (by omega)] at HA; replace HA := Lib.hid HA
         have HB := fun w => aK b w b0; rw [if_neg (by omega)] at HB; replace HB := Lib.hid HB
         clear h
         go_enter Tryz.func108, Tryz.ntmps108
         go_wp2
         refine wp_loop_rounds 4 ?_
         rw [rounds_succ]
         go_wp2_with (go_at_call 135; (first | with_reducible refine (HA.out _).mono ?_ | with_reducible refine (HB.out _).mono ?_); rintro e w' ⟨rfl, rfl⟩)
         rw [rounds_succ]
         go_wp2_with (go_at_call 135; (first | with_reducible refine (HA.out _).mono ?_ | with_reducible refine (HB.out _).mono ?_); rintro e w' ⟨rfl, rfl⟩)
         go_ret
         exact ⟨ri (by unfold eY; rw [if_neg (by omega)]), ba (Below.refl _ _) _⟩
theorem NV (n : Nat) (w : World) (h : n <= 18) : Calls Tryz.prog 194 #[.int .i64 n] w fun r w' => r = .returned (.tuple #[.int .i64 (p10 n), .int .i64 0]) /\ w = w' := by
 go_enter Tryz.func194, Tryz.ntmps194
 go_wp2
 go_loop [4, 10] (fun p i => ∃ k : Nat, k <= n /\ i = .int .i64 k /\ p = .int .i64 (p10 k)) (fun _ i => n - (intOf i).toNat)
 case atStart => exact ⟨0, Nat.zero_le _, rfl, rfl⟩
 case round =>
  obtain ⟨k, hk, rfl, rfl⟩ := hrel
  by_cases hlt : k < n
  . have hb := aFw (k + 1) (by omega)
    have hs := VX k
    have hb2 : p10 k * 10 <= 1000000000000000000 /\ 1 <= p10 k * 10 := by rw [<- hs]; omega
    have HS := Lib.hid hs
    clear hs hb
    go_wp2
    go_round
    case rel => exact ⟨k + 1, by omega, by go_num, by rw [HS.out]⟩
    case measure => simp [intOf]; omega
  . have e : k = n := by omega
    subst e
    go_wp2
    go_ret2
    exact ⟨rfl, rfl⟩
end Bk
end
section
open Go.RowKit Go.Lib
namespace Bk
open Un (ba bt ri rb)
theorem below_drewN {B : Nat} {w W : World} (h : Below B w W) : ∀ n, Below B w (W.drewN n)
 | 0 => h
 | n + 1 => (below_drewN h n).drew
def Asc (s : ByteArray) : Prop := ∀ i (h : i < s.size), (s[i]'h).toNat < 128
theorem RD (l : List UInt8) (c : UInt8) (h : ∀ b ∈ l, b.toNat < 128) (hc : 128 <= c.toNat) : Lib.indexByte l c = -1 := by
 induction l with
 | nil => rfl
 | cons b l ih =>
  have hb := h b (List.mem_cons_self ..)
  have hne : (b == c) = false := by
   rw [beq_eq_false_iff_ne]; rintro rfl; omega
  unfold Lib.indexByte
  rw [ih (fun x hx => h x (List.mem_cons_of_mem _ hx)), hne]
  rfl
theorem YQ {s : ByteArray} (hs : Asc s) (a b : Nat) : ∀ x ∈ (s.extract a b).data.toList, x.toNat < 128 := by
 intro x hx
 have h1 : x ∈ s.data.toList := by
  rw [ByteArray.data_extract, Array.toList_extract] at hx
  unfold List.extract at hx
  exact List.mem_of_mem_drop (List.mem_of_mem_take hx)
 obtain ⟨i, hi, rfl⟩ := List.getElem_of_mem h1
 have := hs i (by simpa using hi)
 rwa [ByteArray.getElem_eq_getElem_data] at this
theorem XV (r : Int) (e2 : 2 <= (Utf8.encode r).size) (eb : 128 <= ((Utf8.encode r)[(Utf8.encode r).size - 1]'(by omega)).toNat) : ∀ k (h : k < (Utf8.encode r).size), k + 1 = (Utf8.encode r).size -> 128 <= ((Utf8.encode r)[k]'h).toNat := by
 intro k h e
 have hk : k = (Utf8.encode r).size - 1 := by omega
 subst hk
 exact eb
theorem MC (s : ByteArray) (hs : Asc s) (h5 : s.size <= 1000) (w : World) :
 Calls Tryz.prog 211 #[.string s, .int .i32 65533] w fun e w' => e = .returned (.int .i64 (-1)) /\ Below w.heap.size w w' := by
 have HS := Lib.hid hs
 clear hs
 go_enter Tryz.func211, Tryz.ntmps211
 go_wp2
 go_loopg [] s.size (fun gf wx => ∃ pos : Nat, wx.heap[w.heap.size]? = some (.stringIter s pos) /\ Below w.heap.size w wx /\ s.size <= pos + gf)
 case atStart => exact ⟨0, World.iter_heap w s 0, (Below.refl _ w).alloc (Nat.le_refl _) _, by omega⟩
 case round =>
  obtain ⟨pos, hit, hbw, hfu⟩ := hrel
  by_cases hps : pos < s.size
  . obtain ⟨g', rfl⟩ : ∃ g', gk = g' + 1 := ⟨gk - 1, by omega⟩
    have hnx : ∀ ty, (Instr.next (.pointer (some ⟨w.heap.size, 0, none⟩)) true ty).run Tryz.prog wr = _ := fun ty => Lib.run_next_any_at wr w.heap.size s pos ty hit hps
    have hde := decode_ascii s pos hps (HS.out pos hps)
    have hlt := HS.out pos hps
    rw [hde] at hnx
    generalize (s[pos]'hps).toNat = R at hnx hlt hde
    have hit2 := Lib.iterAt_heap wr w.heap.size s pos (pos + 1) hit
    have hbw2 := Lib.below_iterAt hbw (k := w.heap.size) (Nat.le_refl _) s (pos + 1)
    clear hde
    go_wp2
    go_roundg g'
    case measure => omega
    case rel => exact ⟨pos + 1, hit2, hbw2, by omega⟩
  . have hnx : ∀ ty, (Instr.next (.pointer (some ⟨w.heap.size, 0, none⟩)) true ty).run Tryz.prog wr = _ := fun ty => Lib.run_next_end_at wr w.heap.size s pos ty hit hps
    go_wp2
    go_ret
    exact ⟨rfl, hbw⟩
theorem Q9 (s : ByteArray) (hs : Asc s) (h4 : 4 <= s.size) (h5 : s.size <= 1000) (r : Int) (h0 : 128 <= r) (h1 : r <= 1114111) (w : World) :
 Calls Tryz.prog 211 #[.string s, .int .i32 r] w fun e w' => e = .returned (.int .i64 (-1)) /\ Below w.heap.size w w' := by
 by_cases hr : r = 65533
 . subst hr; exact MC s hs h5 w
 . have HV := fun w => (Tryz.utf8_ValidRune r w).mono (fun _ _ h => (⟨h.1, h.2.symm⟩ : _ /\ w = _))
   cases hv : Lib.validRune r
   . rw [hv] at HV
     replace HV := Lib.hid HV
     clear hv hs
     go_enter Tryz.func211, Tryz.ntmps211
     go_wp2_with (go_at_call 226; with_reducible refine (HV.out _).mono ?_; rintro _ w' ⟨rfl, rfl⟩)
     go_ret
     exact ⟨rfl, Below.refl _ _⟩
   . rw [hv] at HV
     replace HV := Lib.hid HV
     have hv2 : Utf8.valid r = true := by
      unfold Lib.validRune at hv
      have := of_decide_eq_true hv
      unfold Utf8.valid
      simp
      omega
     obtain ⟨e2, e4, eb⟩ := encode_facts r hv2 h0
     have eb := eb (by omega)
     have HB : ∀ (t : ByteArray) (c : UInt8) (w : World), (∀ b ∈ t.data.toList, b.toNat < 128) -> 128 <= c.toNat -> Calls Tryz.prog 225 #[.string t, .int .u8 c.toNat] w fun e w' => e = .returned (.int .i64 (-1)) /\ w = w' := by
      intro t c w h hc
      have := Tryz.strings_IndexByte t (c.toNat : Int) w
      rw [show ((c.toNat : Int)).toNat.toUInt8 = c by rw [Int.toNat_natCast]; exact UInt8.ofNat_toNat] at this
      rw [RD _ _ h hc] at this
      exact this.mono (fun _ _ h => ⟨h.1, h.2.symm⟩)
     replace HB := Lib.hid HB
     clear hv hv2
     have hasc := hs
     have HX : ∀ k : Nat, ∀ b ∈ (s.extract k s.size).data.toList, b.toNat < 128 := fun k => YQ hs k s.size
     replace HX := Lib.hid HX
     have l1 : 1 < s.size := by omega
     have l2 : 2 < s.size := by omega
     have l3 : 3 < s.size := by omega
     have g1 := hs 1 l1
     have g2 := hs 2 l2
     have g3 := hs 3 l3
     have HE := Lib.hid (XV r e2 eb)
     clear hasc hs
     obtain ha | ha | ha : (Utf8.encode r).size = 2 \/ (Utf8.encode r).size = 3 \/ (Utf8.encode r).size = 4 := by omega
     . have hk : 1 < (Utf8.encode r).size := by omega
       have hlast : 128 <= ((Utf8.encode r)[1]'hk).toNat := HE.out 1 hk (by omega)
       clear HE e2 e4 eb
       go_enter Tryz.func211, Tryz.ntmps211
       go_wp2_with (go_at_call 226; with_reducible refine (HV.out _).mono ?_; rintro _ w' ⟨rfl, rfl⟩)
       go_step3
       go_wp2
       go_loopw [9, 10] (fun s9 s10 wx => s9 = .int .i64 1 /\ s10 = .int .i64 0 /\ wx = w) (fun _ _ _ => 1)
       case atStart => exact ⟨by first | rfl | rw [ha], rfl, rfl⟩
       case round =>
        obtain ⟨rfl, rfl, rfl⟩ := hrel
        have hne : (((s[1]'l1).toNat : Int) != (((Utf8.encode r)[1]'hk).toNat : Int)) = true := by rw [bne_iff_ne]; omega
        go_wp2
        go_step3
        go_wp2
        go_quiet (fail)
        go_wp2
        go_quiet ((go_at_call 225; (refine (HB.out _ _ _ (HX.out _) hlast).mono ?_); rintro e w' ⟨rfl, rfl⟩; exact ⟨rfl, _, rfl⟩))
        go_wp2
        rw [Exit.noGoto_ret]
        go_wp2
        rw [Exit.noGoto_ret]
        go_ret
        exact ⟨rfl, below_drewN (Below.refl _ _) _⟩
     . have hk : 2 < (Utf8.encode r).size := by omega
       have hlast : 128 <= ((Utf8.encode r)[2]'hk).toNat := HE.out 2 hk (by omega)
       clear HE e2 e4 eb
       go_enter Tryz.func211, Tryz.ntmps211
       go_wp2_with (go_at_call 226; with_reducible refine (HV.out _).mono ?_; rintro _ w' ⟨rfl, rfl⟩)
       go_step3
       go_wp2
       go_loopw [9, 10] (fun s9 s10 wx => s9 = .int .i64 2 /\ s10 = .int .i64 0 /\ wx = w) (fun _ _ _ => 1)
       case atStart => exact ⟨by first | rfl | rw [ha], rfl, rfl⟩
       case round =>
        obtain ⟨rfl, rfl, rfl⟩ := hrel
        have hne : (((s[2]'l2).toNat : Int) != (((Utf8.encode r)[2]'hk).toNat : Int)) = true := by rw [bne_iff_ne]; omega
        go_wp2
        go_step3
        go_wp2
        go_quiet (fail)
        go_wp2
        go_quiet ((go_at_call 225; (refine (HB.out _ _ _ (HX.out _) hlast).mono ?_); rintro e w' ⟨rfl, rfl⟩; exact ⟨rfl, _, rfl⟩))
        go_wp2
        rw [Exit.noGoto_ret]
        go_wp2
        rw [Exit.noGoto_ret]
        go_ret
        exact ⟨rfl, below_drewN (Below.refl _ _) _⟩
     . have hk : 3 < (Utf8.encode r).size := by omega
       have hlast : 128 <= ((Utf8.encode r)[3]'hk).toNat := HE.out 3 hk (by omega)
       clear HE e2 e4 eb
       go_enter Tryz.func211, Tryz.ntmps211
       go_wp2_with (go_at_call 226; with_reducible refine (HV.out _).mono ?_; rintro _ w' ⟨rfl, rfl⟩)
       go_step3
       go_wp2
       go_loopw [9, 10] (fun s9 s10 wx => s9 = .int .i64 3 /\ s10 = .int .i64 0 /\ wx = w) (fun _ _ _ => 1)
       case atStart => exact ⟨by first | rfl | rw [ha], rfl, rfl⟩
       case round =>
        obtain ⟨rfl, rfl, rfl⟩ := hrel
        have hne : (((s[3]'l3).toNat : Int) != (((Utf8.encode r)[3]'hk).toNat : Int)) = true := by rw [bne_iff_ne]; omega
        go_wp2
        go_step3
        go_wp2
        go_quiet (fail)
        go_wp2
        go_quiet ((go_at_call 225; (refine (HB.out _ _ _ (HX.out _) hlast).mono ?_); rintro e w' ⟨rfl, rfl⟩; exact ⟨rfl, _, rfl⟩))
        go_wp2
        rw [Exit.noGoto_ret]
        go_wp2
        rw [Exit.noGoto_ret]
        go_ret
        exact ⟨rfl, below_drewN (Below.refl _ _) _⟩
theorem MF (l : List UInt8) (c : UInt8) : (-1 <= Lib.indexByte l c) /\ (decide (0 <= Lib.indexByte l c) = l.any fun b => decide ((b.toNat : Int) = (c.toNat : Int))) := by
 induction l with
 | nil => exact ⟨Int.le_refl (-1), rfl⟩
 | cons b l ih =>
  obtain ⟨i1, i2⟩ := ih
  unfold Lib.indexByte
  rw [List.any_cons, <- i2]
  by_cases h : b = c
  . subst h
    simp
  . have hne : (b == c) = false := by rw [beq_eq_false_iff_ne]; exact h
    have hn : ¬ ((b.toNat : Int) = (c.toNat : Int)) := by
     intro e; exact h (UInt8.toNat_inj.1 (by omega))
    rw [hne, decide_eq_false hn, Bool.false_or]
    simp only [Bool.false_eq_true, if_false]
    by_cases h2 : Lib.indexByte l c = -1
    . rw [h2]; simp
    . have : (Lib.indexByte l c == -1) = false := by rw [beq_eq_false_iff_ne]; exact h2
      rw [this]
      simp only [Bool.false_eq_true, if_false]
      refine ⟨by omega, ?_⟩
      rw [Bool.eq_iff_iff, decide_eq_true_iff, decide_eq_true_iff]
      omega
theorem lT (s : ByteArray) (c : UInt8) : decide (0 <= Lib.indexByte s.data.toList c) = hasB c.toNat s := (MF _ _).2
theorem C9 (s : ByteArray) (hs : Asc s) (h4 : 4 <= s.size) (h5 : s.size <= 1000) (r : Nat) (h1 : r <= 1114111) (w : World) :
 Calls Tryz.prog 185 #[.string s, .int .i32 r] w fun e w' => e = .returned (.bool (decide (r < 128) && hasB r s)) /\ Below w.heap.size w w' := by
 by_cases h : r < 128
 . refine (Tryz.strings_ContainsRune_ascii s r w (by omega) (by omega)).mono ?_
   rintro e w' ⟨rfl, rfl⟩
   refine ⟨?_, Below.refl _ _⟩
   rw [lT, decide_eq_true h, Bool.true_and, Int.toNat_natCast]
   have : ((r.toUInt8).toNat : Int) = (r : Int) := by simp; omega
   rw [this]
 . have HI := Lib.hid (fun w => Q9 s hs h4 h5 r (by omega) (by omega) w)
   rw [decide_eq_false h, Bool.false_and]
   clear hs
   go_enter Tryz.func185, Tryz.ntmps185
   go_wp2_with (go_at_call 211; with_reducible refine (HI.out _).mono ?_; rintro _ w' ⟨rfl, hb⟩)
   go_ret
   exact ⟨rfl, hb⟩
theorem aDi (s : ByteArray) (hs : Asc s) (h4 : 4 <= s.size) (h5 : s.size <= 1000) (B : Nat) (w : World) (hB : B < w.heap.size) (hcell : w.cell? ⟨B, 0, none⟩ = some (.string s)) :
 PredGrows Tryz.prog 184 #[.pointer (some ⟨B, 0, none⟩)] (fun x => !(decide (x < 128) && hasB x s)) w := fun W x hx hb => by
 have hc : W.cell? ⟨B, 0, none⟩ = some (.string s) := (hb.cell (p := ⟨B, 0, none⟩) hB).trans hcell
 have HC := Lib.hid (fun w => C9 s hs h4 h5 x hx w)
 clear hs hb hcell
 obtain ⟨t, ht⟩ : ∃ t, t = (decide (x < 128) && hasB x s) := ⟨_, rfl⟩
 rw [<- ht] at HC
 replace ht := Lib.hid ht
 show Calls Tryz.prog 184 #[.int .i32 x, .pointer (some ⟨B, 0, none⟩)] W _
 go_enter Tryz.func184, Tryz.ntmps184
 go_wp2_with (go_at_call 185; with_reducible refine (HC.out _).mono ?_; rintro _ w' ⟨rfl, hb⟩)
 go_ret
 exact ⟨by rw [<- ht.out]; rfl, hb⟩
theorem V6 (s set : ByteArray) (q : Int -> Bool) (hs : Asc set) (h4 : 4 <= set.size) (h5 : set.size <= 1000) (hq : ∀ x : Nat, x < 128 -> hasB x set = q x) (hq2 : ∀ x : Int, q x = true -> x < 128) (w : World) :
 Calls Tryz.prog 152 #[.string s, .string set] w fun r w' => r = .returned (.bool (allB q s)) /\ Below w.heap.size w w' := by
 have eg : ∀ args w, (callFunc 184 args).run Tryz.prog w = .ok (.enter 184 args) w := enters_of Tryz.func184 (by kernel_rfl) rfl
 have hcon := Tryz.strings_IndexFunc_grows 184 #[.pointer (some ⟨w.heap.size, 0, none⟩)] eg _ s (w.alloc (.cells #[.string set] 9)) (aDi set hs h4 h5 w.heap.size _ (by simp) (by simp))
 have hi := aGU q (fun x => !(decide (x < 128) && hasB x set)) (by intro x hx; rw [decide_eq_true hx, Bool.true_and, hq x hx]) (by intro x hx; rw [decide_eq_false (by omega), Bool.false_and]; rfl) hq2 s
 rw [<- hi]
 generalize Lib.idxFunc (fun x => !(decide (x < 128) && hasB x set)) true s = z at hcon ⊢
 clear hi hs hq hq2
 go_enter Tryz.func152, Tryz.ntmps152
 go_wp2_with (go_at_call 183; refine hcon.mono ?_; rintro _ w' ⟨rfl, hb⟩)
 go_ret
 exact ⟨rfl, bt (ba (Below.refl _ _) _) hb⟩
def XZ : ByteArray := ⟨#[48, 49, 50, 51, 52, 53, 54, 55, 56, 57]⟩
def UG : ByteArray := ⟨#[88, 48, 49, 50, 51, 52, 53, 54, 55, 56, 57]⟩
theorem aHk : Asc XZ := by unfold Asc; decide
theorem aCF : Asc UG := by unfold Asc; decide
theorem aHj : ∀ x : Nat, x < 128 -> hasB x XZ = dG x := by decide
theorem aCE : ∀ x : Nat, x < 128 -> hasB x UG = dP x := by decide
theorem V7 (s : ByteArray) (w : World) : Calls Tryz.prog 152 #[.string s, .string XZ] w fun r w' => r = .returned (.bool (allB dG s)) /\ Below w.heap.size w w' :=
 V6 s XZ dG aHk (by decide) (by decide) aHj (by intro x h; unfold dG at h; have := of_decide_eq_true h; omega) w
theorem aDj (s : ByteArray) (w : World) : Calls Tryz.prog 152 #[.string s, .string UG] w fun r w' => r = .returned (.bool (allB dP s)) /\ Below w.heap.size w w' :=
 V6 s UG dP aCF (by decide) (by decide) aCE (by intro x h; unfold dP at h; simp at h; omega) w
end Bk
end
section
open Go.RowKit
namespace Bk
open Un (ba bt ri rb aX bP)
theorem size_pos (n : Int) (w : World) (h0 : 0 <= n) (h1 : n < 9223372036854775808) : Calls Tryz.prog 216 #[.int .i64 n] w fun r w' => r = .returned (.int .u64 n) /\ w = w' := by
 go_enter Tryz.func216, Tryz.ntmps216
 go_wp2
 go_ret
 exact ⟨ri (by omega), rfl⟩
theorem ZR (n : Int) (w : World) (h0 : 0 <= n) (h1 : n < 18446744073709551616) : Calls Tryz.prog 217 #[.int .u64 n, .bool false] w fun r w' => r = .returned (.tuple #[.int .i64 (if n <= 9223372036854775807 then n else 0), .int .i64 (if n <= 9223372036854775807 then 0 else 15)]) /\ w = w' := by
 by_cases c : n <= 9223372036854775807
 . rw [if_pos c, if_pos c]
   go_enter Tryz.func217, Tryz.ntmps217
   go_wp2
   go_ret2
   exact ⟨aX (by omega) rfl, rfl⟩
 . rw [if_neg c, if_neg c]
   go_enter Tryz.func217, Tryz.ntmps217
   go_wp2
   go_ret2
   exact ⟨rfl, rfl⟩
def mulC (a b : Int) : Int × Int := if a * b <= 9223372036854775807 then (a * b, 0) else (0, 15)
theorem mul_any (a b : Int) (w : World) (a0 : 0 <= a) (a1 : a < 9223372036854775808) (b0 : 0 <= b) (b1 : b < 9223372036854775808) :
 Calls Tryz.prog 195 #[.int .i64 a, .int .i64 b] w fun r w' => r = .returned (.tuple #[.int .i64 (mulC a b).1, .int .i64 (mulC a b).2]) /\ Below w.heap.size w w' := by
 have HA := Lib.hid (fun w => size_pos a w a0 a1)
 have HB := Lib.hid (fun w => size_pos b w b0 b1)
 have HM : ∀ W, Calls Tryz.prog 215 #[.int .u64 a, .int .u64 b] W fun e w' => e = .returned (.tuple #[.int .u64 (a * b / 18446744073709551616), .int .u64 (a * b % 18446744073709551616)]) /\ w' = W := by
  intro W
  have := Tryz.bits_Mul64 a.toNat b.toNat (by omega) (by omega) W
  rw [show ((a.toNat : Nat) : Int) = a by omega, show ((b.toNat : Nat) : Int) = b by omega] at this
  have e : ((a.toNat * b.toNat : Nat) : Int) = a * b := by rw [Int.natCast_mul, show ((a.toNat : Nat) : Int) = a by omega, show ((b.toNat : Nat) : Int) = b by omega]
  rw [Int.natCast_ediv, Int.natCast_emod, e] at this
  exact this
 have m0 : 0 <= a * b := Int.mul_nonneg a0 b0
 have m1 : a * b < 9223372036854775808 * 9223372036854775808 := by
  have h1 := Int.mul_le_mul_of_nonneg_left (show b <= 9223372036854775807 by omega) a0
  omega
 unfold mulC
 generalize a * b = m at *
 obtain ⟨hi, hhi⟩ : ∃ h, h = m / 18446744073709551616 := ⟨_, rfl⟩
 obtain ⟨lo, hlo⟩ : ∃ h, h = m % 18446744073709551616 := ⟨_, rfl⟩
 rw [<- hhi, <- hlo] at HM
 have k0 : 0 <= hi := by omega
 have k1 : hi < 18446744073709551616 := by omega
 have k2 : 0 <= lo := by omega
 have k3 : lo < 18446744073709551616 := by omega
 have HS := Lib.hid (fun w => ZR lo w k2 k3)
 have E := Lib.hid (show m = hi * 18446744073709551616 + lo by omega)
 replace HM := Lib.hid HM
 clear hhi hlo m1
 by_cases c : 0 < hi
 . have hno : ¬ m <= 9223372036854775807 := by have := E.out; omega
   simp only [if_neg hno]
   clear hno
   go_enter Tryz.func195, Tryz.ntmps195
   go_wp2_with (first | (go_at_call 216; (first | with_reducible refine (HA.out _).mono ?_ | with_reducible refine (HB.out _).mono ?_); rintro _ w' ⟨rfl, rfl⟩) | (go_at_call 215; with_reducible refine (HM.out _).mono ?_; rintro _ w' ⟨rfl, rfl⟩))
   go_ret2
   exact ⟨rfl, ba (Below.refl _ _) _⟩
 . have e : hi = 0 := by omega
   subst e
   have hm : m = lo := by have := E.out; omega
   subst hm
   clear E
   by_cases c : m <= 9223372036854775807
   all_goals
    first | simp only [if_pos c] at HS ⊢ | simp only [if_neg c] at HS ⊢
    clear c
    have na : decide (a < 0) = false := decide_eq_false (by omega)
    have nb : decide (b < 0) = false := decide_eq_false (by omega)
    go_enter Tryz.func195, Tryz.ntmps195
    go_wp2_with (first | (go_at_call 216; (first | with_reducible refine (HA.out _).mono ?_ | with_reducible refine (HB.out _).mono ?_); rintro _ w' ⟨rfl, rfl⟩) | (go_at_call 215; with_reducible refine (HM.out _).mono ?_; rintro _ w' ⟨rfl, rfl⟩) | (go_at_call 217; with_reducible refine (HS.out _).mono ?_; rintro _ w' ⟨rfl, rfl⟩))
    go_ret2
    exact ⟨rfl, ba (Below.refl _ _) _⟩
end Bk
end
section
namespace Bk
theorem JV (s : ByteArray) : s.toList.length = s.size := by rw [ByteArray.toList_eq]; simp
theorem zW {s : ByteArray} (h : s.size = 0) : s.toList.isEmpty = true := by
 have := JV s
 rw [List.isEmpty_iff, <- List.length_eq_zero_iff]; omega
theorem yK {s : ByteArray} (h : ¬ s.size = 0) : s.toList.isEmpty = false := by
 have := JV s
 cases e : s.toList.isEmpty
 . rfl
 . rw [List.isEmpty_iff] at e; rw [e] at this; simp at this; omega
theorem bQ (s : ByteArray) : (s.size = 0 /\ s.toList.isEmpty = true) \/ (¬ s.size = 0 /\ s.toList.isEmpty = false) := by
 by_cases h : s.size = 0
 . exact .inl ⟨h, zW h⟩
 . exact .inr ⟨h, yK h⟩
theorem aCb (s : ByteArray) : s.toList.isEmpty = decide (s.size = 0) := by
 rcases bQ s with ⟨h, e⟩ | ⟨h, e⟩
 . rw [e, decide_eq_true h]
 . rw [e, decide_eq_false h]
end Bk
end
end Go.Proofs.YtacggmlngekidaaGreatDoor
