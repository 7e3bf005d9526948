import Derived.Test.YtebgcnnhokclaaaGreatDoorRows
import Derived.Test.YtebgcnnhokclaaaGreatDoorProg
import Derived.Test.YtebgcnnhokclaaaGreatDoorP1
import Derived.Lib.MakeNoZero
import Derived.Laws.Externs
import Derived.WalkKit
import Derived.WalkSpells
import Derived.WalkLawsBesides
import Derived.Lib.Hide
import Derived.LoopN
import Derived.Deep.RegionHeld3
import Derived.Deep.LoopGhost
import Derived.Deep.DeepCutAuto
import Derived.Shelf.GgClosure.StringsIndexFunc
import Derived.Laws.RangeAny
import Derived.Lib.AtoiAll
import Derived.Lib.ParseIntB
import Derived.Lib.SlTrimSet
import Derived.Lib.IndexMore
import Derived.Shelf.Strings.Trim
import Derived.Shelf.Small.Utf8
import Derived.Shelf.Small.Strs
import Derived.Shelf.Strconv.Atoi
import Derived.Shelf.Strconv.Itoa0
import Derived.Shelf.Strconv.AtoiErrFast
import Derived.Shelf.Strconv.ParseIntEmpty
import Derived.Shelf.Strconv.AtoiFail
import Derived.Shelf.LaysM
import Derived.Shelf.Strconv.Clone
import Derived.Shelf.Strconv.SyntaxError
import Derived.Shelf.LaysC
import Derived.Shelf.Strconv.ToError
import Derived.Shelf.Strconv.Lower
import Derived.Shelf.Strconv.ParseUint10
import Derived.Shelf.Strconv.ParseUint10Empty
import Derived.Shelf.Strconv.ParseUint10Any
import Derived.Shelf.Strconv.ParseInt10
import Derived.Shelf.Strconv.AtoiLong
import Derived.Shelf.Strconv.AtoiInnerAll
import Derived.Shelf.Strconv.RangeError
import Derived.Shelf.Strconv.ToErrorRange
import Derived.Shelf.Strconv.AtoiAll
import Derived.Shelf.Strconv.ParseUintEmpty
import Derived.Shelf.Strconv.ParseUint10b64
import Derived.Shelf.Strconv.ParseUint10b32
import Derived.Shelf.Strconv.ParseUint10b16
import Derived.Shelf.Strconv.ParseUint10b8
import Derived.Shelf.Strconv.ParseUint10At
import Derived.Shelf.Strconv.ParseInt10At64
import Derived.Shelf.Strconv.ParseInt10At32
import Derived.Shelf.Strconv.ParseInt10At16
import Derived.Shelf.Strconv.ParseInt10At8
import Derived.Shelf.Strconv.ParseInt10All
import Derived.Shelf.Strconv.ParseIntPublic10
import Derived.Shelf.Strings.Search1
import Derived.Shelf.Strings.Search2
import Derived.Shelf.Strings.Search3
import Derived.Shelf.Strings.Shaped
import Derived.Ground.GgwProg
import Derived.Shelf.GgClosure.StringsIndexFuncTop
import Derived.Shelf.Strings.Runes
import Derived.Shelf.Strings.IndexAny
import Derived.Shelf.Strings.AsciiSet
import Derived.Shelf.Strings.IndexAnyAll
import Derived.Shelf.Bits.Mul64
import Derived.Shelf.Unicode.DecodeSlow
import Derived.Shelf.Unicode.DecodeAny
import Derived.Shelf.Unicode.DecodeLast
import Derived.Shelf.Strings.FuncGrows
import Derived.Laws.Runes
import Derived.WalkMore
import Derived.Deep.QuietTactic
import Derived.BigQuiet
import Derived.Laws.Strings
import Derived.Laws.IdiomStrings
import Derived.Laws.BytesArg
import Derived.Deep.CutBlock
import Derived.Deep.MidRow
import Derived.Laws.EntriesVeiled
set_option linter.unusedSimpArgs false
set_option linter.unusedVariables false
set_option linter.unusedSectionVars false
set_option maxRecDepth 1000000
set_option maxHeartbeats 8000000
namespace Go.Proofs.YtebgcnnhokclaaaGreatDoor
noncomputable section
open Go.Proofs.Tryz
abbrev aAC:=@Go.Lib.hid
abbrev aEB:=@beq_eq_false_iff_ne
abbrev aIH:=@of_decide_eq_false
abbrev aNS:=@Prod.mk.injEq
abbrev aOW:=@Go.wpList_load_mid
abbrev aOX:=@Go.World.cell?_setCell_other
abbrev aO4:=@Go.World.block_lt_of_cell?
abbrev aO9:=@Bool.cond_eq_ite
abbrev aPe:=@Bool.and_false
abbrev aPn:=@Option.some.inj
abbrev aPo:=@List.getElem_of_mem
abbrev aPr:=@Go.World.frozen?_setCell
abbrev aPB:=@Nat.pow_le_pow_right
abbrev aRg:=@Go.run_loadVar_mid
abbrev aRp:=@bne_iff_ne
abbrev aR5:=@Go.Exit.noGoto_ret
abbrev aSG:=@Go.wpList_store_mid
abbrev aT6:=@List.getElem?_set_ne
abbrev aT9:=@Go.bodyPost_ret
abbrev aUa:=@Go.World.cell?_setCells_out
abbrev aUb:=@Go.World.cell?_setCell_same
abbrev aUh:=@Int.emod_nonneg
abbrev aUi:=@ByteArray.getElem_eq_getElem_data
abbrev aUw:=@List.getElem_mem
abbrev aUx:=@List.any_eq_true
abbrev aUD:=@List.dropWhile_cons
abbrev aUF:=@Go.ByteArray.toList_eq
abbrev aUL:=@Int.emod_lt_of_pos
abbrev aU0:=@Int.tmod_eq_zero_of_dvd
abbrev aU2:=@Int.le_refl
abbrev aVe:=@beq_self_eq_true
abbrev aVD:=@List.getElem?_set_self
abbrev aWR:=@Go.all_oneCell_toArray
abbrev aXL:=@List.any_cons
abbrev aXN:=@Go.Exit.noGoto_normal
abbrev aXP:=@List.take_succ_eq_append_getElem
abbrev aXW:=@Array.size_modify
abbrev aX8:=@Go.rounds_succ
abbrev aYb:=@List.range_succ
abbrev aYj:=@Int.mul_nonneg
abbrev aYp:=@Array.getElem_mem_toList
abbrev aYr:=@Int.dvd_of_tmod_eq_zero
abbrev aYt:=@Bool.not_true
abbrev aYE:=@Int.add_zero
section
open Go.RowKit
def fnE(f:Fn):Fn->Bool:=
 Fn.rec (motive:=fun _=>Fn->Bool)
  (fun a g=>Fn.rec (motive:=fun _=>Bool) (fun b=>Nat.beq a b) (fun _=>false) (fun _ _=>false) (fun _ _ _ _=>false) (fun _=>false) g) (fun _ _=>false)
  (fun t m g=>Fn.rec (motive:=fun _=>Bool) (fun _=>false) (fun _=>false) (fun t' m'=>band (Nat.beq t t') (m==m')) (fun _ _ _ _=>false) (fun _=>false) g)
  (fun _ _ _ _ _=>false) (fun _ _=>false) f
theorem aOj{f g:Fn}(h:fnE f g=true):f=g:=by
 cases f<;>cases g<;>first|(cases h;done)|skip
 . rw[aEE (show Nat.beq _ _=true from h)]
 obtain⟨h1,h2⟩:=aU (show band (Nat.beq _ _) (_==_)=true from h);rw[aEE h1,aI3.1 h2]
def f1{α:Type}(_:α):Bool:=false
def f2{α β:Type}(_:α)(_:β):Bool:=false
def f3{α β γ:Type}(_:α)(_:β)(_:γ):Bool:=false
def f4{α β γ δ:Type}(_:α)(_:β)(_:γ)(_:δ):Bool:=false
def eqV(v:Value)(y:AV):Bool:=AV.el (fun u=>aCA v u) f2 f4 f4 f3 f2 f1 f1 f1 y
def eqP(b o:Nat)(y:AV):Bool:=AV.el f1 (fun b' o'=>band (Nat.beq b b') (Nat.beq o o')) f4 f4 f3 f2 f1 f1 f1 y
def aS5(b o n c:Nat)(y:AV):Bool:=AV.el f1 f2 (fun b' o' n' c'=>band (Nat.beq b b') (band (Nat.beq o o') (band (Nat.beq n n') (Nat.beq c c')))) f4 f3 f2 f1 f1 f1 y
def aS6(b o n c:Nat)(y:AV):Bool:=AV.el f1 f2 f4 (fun b' o' n' c'=>band (Nat.beq b b') (band (Nat.beq o o') (band (Nat.beq n n') (Nat.beq c c')))) f3 f2 f1 f1 f1 y
def eqFn(f:Fn)(_ _:List AV)(iha ihc:List AV->Bool)(y:AV):Bool:=AV.el f1 f2 f4 f4 (fun f' a' c'=>band (iha a') (band (ihc c') (fnE f f'))) f2 f1 f1 f1 y
def eqI(t:TypeId)(_:AV)(ih:AV->Bool)(y:AV):Bool:=AV.el f1 f2 f4 f4 f3 (fun t' x'=>band (Nat.beq t t') (ih x')) f1 f1 f1 y
def aS7(_:List AV)(ih:List AV->Bool)(y:AV):Bool:=AV.el f1 f2 f4 f4 f3 f2 ih f1 f1 y
def aS4(_:List AV)(ih:List AV->Bool)(y:AV):Bool:=AV.el f1 f2 f4 f4 f3 f2 f1 ih f1 y
def eqMp(b:Nat)(y:AV):Bool:=AV.el f1 f2 f4 f4 f3 f2 f1 f1 (fun b'=>Nat.beq b b') y
def eqN(m:List AV):Bool:=isNil m
def eqC(_:AV)(_:List AV)(ihx:AV->Bool)(ihl:List AV->Bool)(m:List AV):Bool:=List.rec (motive:=fun _=>Bool) false (fun y m _=>band (ihx y) (ihl m)) m
def eqS(x:AV):AV->Bool:=AV.rec (motive_1:=fun _=>AV->Bool) (motive_2:=fun _=>List AV->Bool) eqV eqP aS5 aS6 eqFn eqI aS7 aS4 eqMp eqN eqC x
def aBh(l:List AV):List AV->Bool:=AV.rec_1 (motive_1:=fun _=>AV->Bool) (motive_2:=fun _=>List AV->Bool) eqV eqP aS5 aS6 eqFn eqI aS7 aS4 eqMp eqN eqC l
mutual
theorem BF:(x y:AV)->eqS x y=true->x=y
 | .v a,y,h=>by cases y<;>first|(cases h;done)|(rw[aHF (show aCA _ _=true from h)])
 | .ptr b o,y,h=>by
  cases y<;>first|(cases h;done)|skip
  obtain⟨h1,h2⟩:=aU (show band (Nat.beq _ _) (Nat.beq _ _)=true from h);rw[aEE h1,aEE h2]
 | .sl b o n c,y,h=>by
  cases y<;>first|(cases h;done)|skip
  obtain⟨h1,h2⟩:=aU (show band (Nat.beq _ _) (band (Nat.beq _ _) (band (Nat.beq _ _) (Nat.beq _ _)))=true from h);obtain⟨h3,h4⟩:=aU h2;obtain⟨h5,h6⟩:=aU h4;rw[aEE h1,aEE h3,aEE h5,aEE h6]
 | .y8 b o n c,y,h=>by
  cases y<;>first|(cases h;done)|skip
  obtain⟨h1,h2⟩:=aU (show band (Nat.beq _ _) (band (Nat.beq _ _) (band (Nat.beq _ _) (Nat.beq _ _)))=true from h);obtain⟨h3,h4⟩:=aU h2;obtain⟨h5,h6⟩:=aU h4;rw[aEE h1,aEE h3,aEE h5,aEE h6]
 | .fn f a c,y,h=>by
  cases y<;>first|(cases h;done)|skip
  obtain⟨h1,h2⟩:=aU (show band (aBh a _) (band (aBh c _) (fnE f _))=true from h);obtain⟨h3,h4⟩:=aU h2;rw[yO a _ h1,yO c _ h3,aOj h4]
 | .EJ t x,y,h=>by
  cases y<;>first|(cases h;done)|skip
  obtain⟨h1,h2⟩:=aU (show band (Nat.beq _ _) (eqS x _)=true from h);rw[aEE h1,BF x _ h2]
 | .agg l,y,h=>by
  cases y<;>first|(cases h;done)|skip
  rw[yO l _ h]
 | .eP l,y,h=>by
  cases y<;>first|(cases h;done)|skip
  rw[yO l _ h]
 | .mp b,y,h=>by
  cases y<;>first|(cases h;done)|skip
  rw[aEE (show Nat.beq _ _=true from h)]
theorem yO:(l m:List AV)->aBh l m=true->l=m
 |[],m,h=>by cases m;rfl;cases h
 | x::l,m,h=>by
  cases m with
  |nil=>cases h
  |cons y m=>
   obtain⟨h1,h2⟩:=aU (show band (eqS x y) (aBh l m)=true from h);rw[BF x y h1,yO l m h2]
end
mutual
def dS(l:Value):AV->Value
 | .v x=>x
 | .fn f a c=>vU f (dSL l a) (dSL l c)
 | .EJ t x=>.iface t (dS l x)
 | .agg m=>.agg (dSL l m).toArray
 | .eP m=>.tuple (dSL l m).toArray
 | .mp _=>.iface 0 l
 |_=>.bool false
def dSL(l:Value):List AV->List Value
 |[]=>[]
 |x::m=>dS l x::dSL l m
end
theorem aHX(l:Value)(m:List AV):dSL l m=m.map (dS l):=by
 induction m with
 |nil=>rfl
 |cons x m ih=>simp only[dSL,ih,aOZ]
def pV(g:Nat)(x:AV):Bool:=
 AV.rec (motive_1:=fun _=>Bool) (motive_2:=fun _=>Bool) (fun _=>true) (fun _ _=>false) (fun _ _ _ _=>false) (fun _ _ _ _=>false) (fun _ _ _ a b=>band a b) (fun _ _ x=>x) (fun _ l=>l) (fun _ l=>l) (fun b=>Nat.beq b g) true (fun _ _ x l=>band x l) x
def pG(g:Nat)(l:List AV):Bool:=
 AV.rec_1 (motive_1:=fun _=>Bool) (motive_2:=fun _=>Bool) (fun _=>true) (fun _ _=>false) (fun _ _ _ _=>false) (fun _ _ _ _=>false) (fun _ _ _ a b=>band a b) (fun _ _ x=>x) (fun _ l=>l) (fun _ l=>l) (fun b=>Nat.beq b g) true (fun _ _ x l=>band x l) l
mutual
theorem pX{g:Nat}{ρ:Env}{l:Value}(hρ:ρ.cp g=⟨0,0,l⟩):(x:AV)->pV g x=true->den ρ x=dS l x
 | .v _,_=>rfl
 | .ptr _ _,h=>by cases h
 | .sl _ _ _ _,h=>by cases h
 | .y8 _ _ _ _,h=>by cases h
 | .fn f a c,h=>by
  obtain⟨h1,h2⟩:=aU (show band (pG g a) (pG g c)=true from h);simp only[den,dS,qJ hρ a h1,qJ hρ c h2]
 | .EJ t x,h=>by simp only[den,dS,pX hρ x h]
 | .agg m,h=>by simp only[den,dS,qJ hρ m h]
 | .eP m,h=>by simp only[den,dS,qJ hρ m h]
 | .mp b,h=>by
  obtain rfl:=aEE (show Nat.beq b g=true from h);simp only[den,dS,hρ]
theorem qJ{g:Nat}{ρ:Env}{l:Value}(hρ:ρ.cp g=⟨0,0,l⟩):(m:List AV)->pG g m=true->kC ρ m=dSL l m
 |[],_=>rfl
 |x::m,h=>by
  obtain⟨h1,h2⟩:=aU (show band (pV g x) (pG g m)=true from h);simp only[kC,dSL,pX hρ x h1,qJ hρ m h2]
end
mutual
theorem aAa[Gh]{g n:Nat}(hg:Gd n g):(x:AV)->pV g x=true->Sc n x
 | .v _,_=>trivial
 | .ptr _ _,h=>by cases h
 | .sl _ _ _ _,h=>by cases h
 | .y8 _ _ _ _,h=>by cases h
 | .fn f a c,h=>by
  obtain⟨h1,h2⟩:=aU (show band (pG g a) (pG g c)=true from h);exact⟨xU hg a h1,xU hg c h2⟩
 | .EJ t x,h=>aAa hg x h
 | .agg m,h=>xU hg m h
 | .eP m,h=>xU hg m h
 | .mp b,h=>by
  obtain rfl:=aEE (show Nat.beq b g=true from h);exact hg
theorem xU[Gh]{g n:Nat}(hg:Gd n g):(m:List AV)->pG g m=true->jM n m
 |[],_=>trivial
 |x::m,h=>by
  obtain⟨h1,h2⟩:=aU (show band (pV g x) (pG g m)=true from h);exact⟨aAa hg x h1,xU hg m h2⟩
end
abbrev Fct:=Nat × AV × AV × Bool
def aOm(fs:List Fct)(c:Nat)(x y:AV):Option Bool:=
 List.rec (motive:=fun _=>Option Bool) none (fun e _ ih=>Bool.rec (motive:=fun _=>Option Bool) ih (some e.2.2.2) (band (Nat.beq e.1 c) (band (eqS e.2.1 x) (eqS e.2.2.1 y)))) fs
theorem aHA{c:Nat}{x y:AV}{b:Bool}: ∀ {fs:List Fct},aOm fs c x y=some b->(c,x,y,b) ∈ fs:=by
 intro fs
 induction fs with
 |nil=>intro h;cases h
 | cons e fs ih=>
  intro h;have h:Bool.rec (motive:=fun _=>Option Bool) (aOm fs c x y) (some e.2.2.2) (band (Nat.beq e.1 c) (band (eqS e.2.1 x) (eqS e.2.2.1 y)))=some b:=h;cases hb:band (Nat.beq e.1 c) (band (eqS e.2.1 x) (eqS e.2.2.1 y))with
  |false=>rw[hb]at h;exact aKO _ (ih h)
  |true=>
   rw[hb]at h;obtain⟨h1,h2⟩:=aU hb;obtain⟨h3,h4⟩:=aU h2;have h:e.2.2.2=b:=aPn h;have:(c,x,y,b)=e:=by rw[<-aEE h1,<-BF _ _ h3,<-BF _ _ h4,<-h]
   rw[this];exact aIC
abbrev EG:=FuncId × List AV × AV
def aNs(os:List EG)(f:FuncId)(xs:List AV):Option AV:=
 List.rec (motive:=fun _=>Option AV) none (fun e _ ih=>Bool.rec (motive:=fun _=>Option AV) ih (some e.2.2) (band (Nat.beq e.1 f) (aBh e.2.1 xs))) os
theorem aFT{f:FuncId}{xs:List AV}{v:AV}: ∀ {os:List EG},aNs os f xs=some v->(f,xs,v) ∈ os:=by
 intro os
 induction os with
 |nil=>intro h;cases h
 | cons e os ih=>
  intro h;have h:Bool.rec (motive:=fun _=>Option AV) (aNs os f xs) (some e.2.2) (band (Nat.beq e.1 f) (aBh e.2.1 xs))=some v:=h;cases hb:band (Nat.beq e.1 f) (aBh e.2.1 xs)with
  |false=>rw[hb]at h;exact aKO _ (ih h)
  |true=>
   rw[hb]at h;obtain⟨h1,h2⟩:=aU hb;have h:e.2.2=v:=aPn h;have:(f,xs,v)=e:=by rw[<-aEE h1,<-yO _ _ h2,<-h]
   rw[this];exact aIC
abbrev UR:=TypeId × AV × AV × AV
def aNw(ps:List UR)(t:TypeId)(x y:AV):Option AV:=
 List.rec (motive:=fun _=>Option AV) none (fun e _ ih=>Bool.rec (motive:=fun _=>Option AV) ih (some e.2.2.2) (band (Nat.beq e.1 t) (band (eqS e.2.1 x) (eqS e.2.2.1 y)))) ps
theorem aF3{t:TypeId}{x y z:AV}: ∀ {ps:List UR},aNw ps t x y=some z->(t,x,y,z) ∈ ps:=by
 intro ps
 induction ps with
 |nil=>intro h;cases h
 | cons e ps ih=>
  intro h;have h:Bool.rec (motive:=fun _=>Option AV) (aNw ps t x y) (some e.2.2.2) (band (Nat.beq e.1 t) (band (eqS e.2.1 x) (eqS e.2.2.1 y)))=some z:=h;cases hb:band (Nat.beq e.1 t) (band (eqS e.2.1 x) (eqS e.2.2.1 y))with
  |false=>rw[hb]at h;exact aKO _ (ih h)
  |true=>
   rw[hb]at h;obtain⟨h1,h2⟩:=aU hb;obtain⟨h3,h4⟩:=aU h2;have h:e.2.2.2=z:=aPn h;have:(t,x,y,z)=e:=by rw[<-aEE h1,<-BF _ _ h3,<-BF _ _ h4,<-h]
   rw[this];exact aIC
def tbL(B:Tab)(l:Value)(fs:List Fct)(ps:List UR)(os:List EG):Tab:=
 ⟨B.p,⟨B.g.n,fun _=>⟨0,0,l⟩⟩,B.l,B.ty,B.fn,aNs os,B.idn,B.mnz,B.met,aOm fs,aNw ps⟩
def aMw(g:Nat)(l:Value)(e:Fct):Prop:=pV g e.2.1=true/\pV g e.2.2.1=true/\qW e.1 (dS l e.2.1) (dS l e.2.2.1)=e.2.2.2
def UQ(P:Program)(l:Value)(e:UR):Prop:= ∀b,dS l e.2.2.2=.bool b-> ∀ox oy w,
 (do eqGuard .eql e.1 ox oy (dS l e.2.1) (dS l e.2.2.1);binOp .eql e.1 (dS l e.2.1) (dS l e.2.2.1)).run P w=.ok (.bool b) w/\
 (do eqGuard .neq e.1 ox oy (dS l e.2.1) (dS l e.2.2.1);binOp .neq e.1 (dS l e.2.1) (dS l e.2.2.1)).run P w=.ok (.bool (!b)) w
def aJS(g:Nat)(e:UR):Bool:=band (pV g e.2.1) (band (pV g e.2.2.1) (pV g e.2.2.2))
def FW(P:Program)(w0:World)(l:Value)(e:EG):Prop:= ∀w,Below w0.heap.size w0 w->
 Calls P e.1 (e.2.1.map (dS l)).toArray w fun r w'=>r=.returned (dS l e.2.2)/\Below w.heap.size w w'
def WQ(B:Tab)(g:Nat)(e:EG):Bool:=band (pG g e.2.1) (band (pV g e.2.2) (Option.rec (motive:=fun _=>Bool) false (fun _=>true) (B.fn.get e.1)))
theorem aMX{B:Tab}{w0:World}{l:Value}{fs:List Fct}{ps:List UR}{os:List EG}{g:Nat}(hB:jY B w0)(hg:Nat.ble (g+1) B.g.n=true)
 (hf: ∀e ∈ fs,aMw g l e) (hp: ∀e ∈ ps,aJS g e=true/\UQ B.p l e) (ho: ∀e ∈ os,WQ B g e=true/\FW B.p w0 l e):jY (tbL B l fs ps os) w0 where
 ty:=hB.ty
 fn:=hB.fn
 orc:=fun f xs v h=>by
  obtain⟨h1,h2⟩:=ho _ (aFT h);obtain⟨h3,h4⟩:=aU h1;obtain⟨h5,h6⟩:=aU h4;have hg':g<B.g.n:=by have:=aK8 hg;omega
  refine⟨fun _ n hn=>aAa (hn g hg') v h5,?_,fun ρ w hρ hw=>?_⟩
  . cases hfn:B.fn.get f with
    |none=>rw[show B.fn.get (f,xs,v).1=none from hfn]at h6;cases h6
    |some fn=>exact(hB.fn f fn hfn).2
  have MF:ρ.cp g=⟨0,0,l⟩:=hρ g hg';have:=h2 w hw;rw[<-fK,qJ MF xs h3,aHX,pX MF v h5];exact this
 BD:={
  BD:=fun c x y b h ρ hρ=>by
   have hg':g<B.g.n:=by have:=aK8 hg;omega
   have MF:ρ.cp g=⟨0,0,l⟩:=hρ g hg';obtain⟨h1,h2,h3⟩:=hf _ (aHA h);rw[pX MF x h1,pX MF y h2];exact h3
  oop:=fun t x y z h ρ hρ b hz ox oy w=>by
   have hg':g<B.g.n:=by have:=aK8 hg;omega
   have MF:ρ.cp g=⟨0,0,l⟩:=hρ g hg';obtain⟨h1,h2⟩:=hp _ (aF3 h);obtain⟨h3,h4⟩:=aU h1;obtain⟨h5,h6⟩:=aU h4;rw[pX MF z h6]at hz;rw[pX MF x h3,pX MF y h5];exact h2 b hz ox oy w }
 mixed:=hB.mixed
 idn:=hB.idn
 mnz:=hB.mnz
 met:=hB.met
inductive DT where
 |leaf (v:AV)
 |no
 |node (c:Nat) (x y:AV) (t f:DT)
def DT.den(l:Value):DT->Value
 | .leaf v=>dS l v
 | .no=>.bool false
 | .node c x y t f=>cond (qW c (dS l x) (dS l y)) (t.den l) (f.den l)
def DT.live(l:Value):DT->Prop
 | .leaf _=>True
 | .no=>False
 | .node c x y t f=>(qW c (dS l x) (dS l y)=true->t.live l)/\(qW c (dS l x) (dS l y)=false->f.live l)
def aFo(g:Nat)(v:AV)(x:Option (AV × Hs)):Bool:=Option.rec (motive:=fun _=>Bool) false (fun p=>band (eqS p.1 v) (pV g v)) x
def DT.ok(B:Tab)(l:Value)(ps:List UR)(os:List EG)(h0:Tr HO)(d g:Nat)(f:FuncId)(xs:List AV)(T:DT):List Fct->Bool:=
 DT.rec (motive:=fun _=>List Fct->Bool) (fun v fs=>aFo g v (D7 (tbL B l fs ps os) d B.l [] f xs ⟨h0,B.l⟩)) (fun _=>true)
  (fun c x y _ _ iht ihf fs=>band (band (pV g x) (pV g y)) (band (iht ((c,x,y,true)::fs)) (ihf ((c,x,y,false)::fs)))) T
def lI(n l:Nat)(w0:World)(h0:Tr HO):Prop:= ∀lv w,Below w0.heap.size w0 w-> ∃ ρ,@aZ G0 w0 ρ ⟨⟨n,lv⟩,l,l,[]⟩ ⟨h0,l⟩ w
theorem aHJ{B:Tab}{w0 w:World}{l:Value}{ps:List UR}{os:List EG}{g d:Nat}{h0:Tr HO}{f:FuncId}{xs:List AV}(hB:jY B w0)(hst:lI B.g.n B.l w0 h0)(hg:Nat.ble (g+1) B.g.n=true)
 (hp: ∀e ∈ ps,aJS g e=true/\UQ B.p l e) (ho: ∀e ∈ os,WQ B g e=true/\FW B.p w0 l e) (hx:pG g xs=true) (hy:Nat.ble yF f=false) (hw:Below w0.heap.size w0 w) (T:DT):
 ∀fs,(∀e ∈ fs,aMw g l e)->T.ok B l ps os h0 d g f xs fs=true->T.live l->Calls B.p f (xs.map (dS l)).toArray w fun e w'=>e=.returned (T.den l)/\Below w.heap.size w w':=by
 induction T with
 | leaf v=>
  intro fs hf h _;have h:aFo g v (D7 (tbL B l fs ps os) d B.l [] f xs ⟨h0,B.l⟩)=true:=h;cases hr:D7 (tbL B l fs ps os) d B.l [] f xs ⟨h0,B.l⟩with
  |none=>rw[hr]at h;cases h
  |some p=>
   rw[hr]at h;obtain⟨h1,h2⟩:=aU (show band (eqS p.1 v) (pV g v)=true from h);have h1:=BF _ _ h1;obtain⟨v',s'⟩:=p;have h1:v'=v:=h1;subst h1;obtain⟨ρ,hs⟩:=hst (fun _=>⟨0,0,l⟩) w hw;have hg':g<B.g.n:=by have:=aK8 hg;omega
   have hρ:ρ.cp g=⟨0,0,l⟩:=(@aZ.gl G0 _ _ _ _ _ hs g hg').2.2;have hgd:@Gd G0 B.l g:=⟨aG0 hg' (@aZ.gn G0 _ _ _ _ _ hs),fun h=>h⟩;have hT:=aMX hB hg hf hp ho;have:=(aH8 hT d G0 _ _ _ _ _ _ _ hr ρ w hs (@xU G0 _ _ hgd xs hx)).1 hy;rw[<-fK,qJ hρ xs hx,aHX]at this;refine this.mono ?_;rintro e w' ⟨ρ',rfl,h3,_⟩;have fr:=@Stp.fr G0 _ _ _ _ _ _ _ _ h3;have MF:ρ'.cp g=⟨0,0,l⟩:=(@aZ.gl G0 _ _ _ _ _ (@Stp.sat G0 _ _ _ _ _ _ _ _ h3) g hg').2.2;exact⟨by rw[pX MF v' h2];rfl,fr.os,fr.tape,fr.output,fr.size,fun r hr=>fr.block r hr (fun b o h3 h4=>absurd h3 (Nat.not_le.2 (@aZ.lt G0 _ _ _ _ _ hs b o h4)))⟩
 |no=>intro fs _ _ h;cases h
 | node c x y t u iht ihu=>
  intro fs hf h hl;obtain⟨h1,h2⟩:=aU (show band (band (pV g x) (pV g y)) (band (t.ok B l ps os h0 d g f xs ((c,x,y,true)::fs)) (u.ok B l ps os h0 d g f xs ((c,x,y,false)::fs)))=true from h);obtain⟨h3,h4⟩:=aU h1;obtain⟨h5,h6⟩:=aU h2;show Calls B.p f _ w fun e w'=>e=.returned (cond (qW c (dS l x) (dS l y)) (t.den l) (u.den l))/\_;cases hb:qW c (dS l x) (dS l y)with
  | true=>
   exact iht _ (fun e he=>by
    rcases aLr.1 he with rfl|he
    . exact⟨h3,h4,hb⟩
    exact hf e he) h5 (hl.1 hb)
  | false=>
   exact ihu _ (fun e he=>by
    rcases aLr.1 he with rfl|he
    . exact⟨h3,h4,hb⟩
    exact hf e he) h6 (hl.2 hb)
theorem VJ{B:Tab}{w0 w:World}{l:Value}{ps:List UR}{os:List EG}{g d:Nat}{h0:Tr HO}{f:FuncId}{xs:List AV}(T:DT)(hB:jY B w0)(hst:lI B.g.n B.l w0 h0)(hg:Nat.ble (g+1) B.g.n=true)
 (hp: ∀e ∈ ps,aJS g e=true/\UQ B.p l e) (ho: ∀e ∈ os,WQ B g e=true/\FW B.p w0 l e) (hx:pG g xs=true) (hy:Nat.ble yF f=false) (hw:Below w0.heap.size w0 w)
 (h:T.ok B l ps os h0 d g f xs []=true) (hl:T.live l):Calls B.p f (xs.map (dS l)).toArray w fun e w'=>e=.returned (T.den l)/\Below w.heap.size w w':=
 aHJ hB hst hg hp ho hx hy hw T [] (fun e he=>by cases he) h hl
theorem aAg{P:Program}{L:List (String × DataW Unit)}{G n:Nat}{bs:List (Nat × List AV)}{w0:World}(hl:laidMet P L w0){fs:List (Nat × List Value)}(hf:G8 G w0 fs)(h:layVars P G L G=some (bs,n)){h0:Tr HO}(h0e:E8 (bs++fixed fs)=h0):lI G n w0 h0:=fun lv w hw=>by
 obtain⟨ρ,hs⟩:=aAf lv hl hf hw h;rw[h0e]at hs;exact⟨ρ,hs⟩
def DT.all:DT->Bool
 | .leaf _=>true
 | .no=>false
 | .node _ _ _ t f=>t.all&&f.all
theorem kL{l:Value}: ∀ {T:DT},T.all=true->T.live l:=by
 intro T
 induction T with
 |leaf v=>intro _;trivial
 |no=>intro h;cases h
 |node c x y t f iht ihf=>
  intro h;rw[DT.all,aEb]at h;exact⟨fun _=>iht h.1,fun _=>ihf h.2⟩
theorem AO{P:Program}{l:Value}{e:UR}(hg1: ∀ox oy w,(eqGuard .eql e.1 ox oy (dS l e.2.1) (dS l e.2.2.1)).run P w=.ok () w)(hg2: ∀ox oy w,(eqGuard .neq e.1 ox oy (dS l e.2.1) (dS l e.2.2.1)).run P w=.ok () w)(Z:Bool)(hZ:dS l e.2.2.2=.bool Z)
 (h1: ∀w,(binOp .eql e.1 (dS l e.2.1) (dS l e.2.2.1)).run P w=.ok (.bool Z) w) (h2: ∀w,(binOp .neq e.1 (dS l e.2.1) (dS l e.2.2.1)).run P w=.ok (.bool (!Z)) w):UQ P l e:=by
 intro b hb ox oy w;rw[hZ]at hb;cases hb;exact⟨by rw[aDt,hg1];exact h1 w,by rw[aDt,hg2];exact h2 w⟩
def aCT(P:Program)(w0:World)(f:FuncId)(args:Array Value)(v:Value):Prop:= ∀w,Below w0.heap.size w0 w->Calls P f args w fun r w'=>r=.returned v/\Below w.heap.size w w'
def EqV(P:Program)(t:TypeId)(a b:Value)(z:Bool):Prop:=(∀w,(binOp .eql t a b).run P w=.ok (.bool z) w)/\(∀w,(binOp .neq t a b).run P w=.ok (.bool (!z)) w)
def GdV(P:Program)(t:TypeId)(a b:Value):Prop:= ∀ox oy w,(eqGuard .eql t ox oy a b).run P w=.ok () w/\(eqGuard .neq t ox oy a b).run P w=.ok () w
inductive OpS(P:Program):List (TypeId × Value × Value × Value)->Prop
 |nil:OpS P []
 |cons {t:TypeId} {a b:Value} {z:Bool} {es:List (TypeId × Value × Value × Value)} (h:EqV P t a b z) (g:GdV P t a b) (tl:OpS P es):OpS P ((t,a,b,.bool z)::es)
inductive OrS(P:Program)(w0:World):List (FuncId × Array Value × Value)->Prop
 |nil:OrS P w0 []
 |cons {f:FuncId} {args:Array Value} {v:Value} {es:List (FuncId × Array Value × Value)} (h:aCT P w0 f args v) (t:OrS P w0 es):OrS P w0 ((f,args,v)::es)
theorem OpS.all{P:Program}{L:List (TypeId × Value × Value × Value)}(h:OpS P L): ∀x ∈ L,∃z,x.2.2.2=.bool z/\EqV P x.1 x.2.1 x.2.2.1 z/\GdV P x.1 x.2.1 x.2.2.1:=by
 induction h with
 |nil=>intro e he;cases he
 |cons h g _ ih=>intro e he;exact(aLr.1 he).elim (fun q=>by subst q;exact⟨_,rfl,h,g⟩) (ih e)
theorem OrS.all{P:Program}{w0:World}{L:List (FuncId × Array Value × Value)}(h:OrS P w0 L): ∀x ∈ L,aCT P w0 x.1 x.2.1 x.2.2:=by
 induction h with
 |nil=>intro e he;cases he
 |cons h _ ih=>intro e he;exact(aLr.1 he).elim (fun q=>by subst q;exact h) (ih e)
def seB(B:Tab)(ps:List UR)(os:List EG)(g:Nat)(f:FuncId)(xs:List AV):Bool:=band (Nat.ble (g+1) B.g.n) (band (ps.all (aJS g)) (band (os.all (WQ B g)) (band (pG g xs) (lS (Nat.ble yF f)))))
theorem eU{B:Tab}{w0:World}{l:Value}{ps:List UR}{os:List EG}{g d:Nat}{h0:Tr HO}{f:FuncId}{xs:List AV}{T:DT}{args:Array Value}{v:Value}{LP:List (TypeId × Value × Value × Value)}{LO:List (FuncId × Array Value × Value)}
 (h:T.ok B l ps os h0 d g f xs []=true) (hB:jY B w0) (hst:lI B.g.n B.l w0 h0) (hp:OpS B.p LP) (ho:OrS B.p w0 LO) (hl:T.live l)
 (hc:(seB B ps os g f xs,ps.map (fun e=>(e.1,dS l e.2.1,dS l e.2.2.1,dS l e.2.2.2)),os.map (fun e=>(e.1,(e.2.1.map (dS l)).toArray,dS l e.2.2)),T.den l,(xs.map (dS l)).toArray)=(true,LP,LO,v,args)):aCT B.p w0 f args v:=by
 simp only[aNS]at hc;obtain⟨hc,e3,e4,e1,e2⟩:=hc;obtain⟨c1,c⟩:=aU hc;obtain⟨c2,c⟩:=aU c;obtain⟨c3,c⟩:=aU c;obtain⟨c4,c5⟩:=aU c;subst e1 e2 e3 e4;refine fun w hw=>VJ T hB hst c1 (fun e he=>⟨aIJ.1 c2 e he,?_⟩) (fun e he=>⟨aIJ.1 c3 e he,ho.all _ (List.mem_map_of_mem he)⟩) c4 (by cases hb:Nat.ble yF f with|false=>rfl|true=>rw[hb]at c5;cases c5) hw h hl;obtain⟨z,hz,q,g⟩:=hp.all _ (List.mem_map_of_mem he);exact AO (fun ox oy w=>(g ox oy w).1) (fun ox oy w=>(g ox oy w).2) z hz q.1 q.2
def OM(B:Tab)(l:Value)(h0:Tr HO)(g d:Nat)(os:List EG)(e:EG):Bool:=
 band (band (WQ B g e) (lS (Nat.ble yF e.1))) (aFo g e.2.2 (D7 (tbL B l [] [] os) d B.l [] e.1 e.2.1 ⟨h0,B.l⟩))
theorem uT{B:Tab}{w0:World}{l:Value}{g d:Nat}{h0:Tr HO}{os new:List EG}(hB:jY B w0)(hst:lI B.g.n B.l w0 h0)(hg:Nat.ble (g+1) B.g.n=true)(ho: ∀e ∈ os,WQ B g e=true/\FW B.p w0 l e)
 (h:new.all (OM B l h0 g d os)=true): ∀e ∈ new++os,WQ B g e=true/\FW B.p w0 l e:=fun e he=>by
 rcases aIK.1 he with he|he
 . obtain⟨h1,h2⟩:=aU (aIJ.1 h e he);obtain⟨h3,h4⟩:=aU h1;refine⟨h3,fun w hw=>?_⟩;exact VJ (ps:=[]) (.leaf e.2.2) hB hst hg (fun e he=>by cases he) ho (aU h3).1 (by cases hb:Nat.ble yF e.1 with|false=>rfl|true=>rw[hb]at h4;cases h4) hw h2 trivial
 exact ho e he
theorem iD{T:DT}{l:Value}{p:Prop}(e:T.live l=p)(h:p):T.live l:=e ▸ h
def ltr(g:Nat)(p:Value)(i:Nat):AV:=.fn (.methodOf 1 "") [.v p,.mp g,.v (.int .i64 i)] []
end
section
def k9:List AV:=([0,1,28,2,29,14,24,3,30,22,20,15,25,17,4,8,31,27,13,23,21,19,16,7,26,12,18,6,11,5,10,9]:List Int).map fun n=>.v (.int .u8 n)
def k10:List AV:=([0,1,56,2,57,49,28,3,61,58,42,50,38,29,17,4,62,47,59,36,45,43,51,22,53,39,33,30,24,18,12,5,63,55,48,27,60,41,37,16,46,35,44,21,52,32,23,11,54,26,40,15,34,20,31,10,25,14,19,9,13,8,7,6]:List Int).map fun n=>.v (.int .u8 n)
def k5:List AV:=([1,10,100,1000,10000,100000,1000000,10000000,100000000,1000000000,10000000000,100000000000,1000000000000,10000000000000,100000000000000,1000000000000000,10000000000000000,100000000000000000,1000000000000000000,10000000000000000000]:List Int).map fun n=>.v (.int .u64 n)
def k8:List AV:=([128,191,160,191,128,159,144,191,128,143,0,0,0,0,0,0,0,0,0,0,0,0,0,0,0,0,0,0,0,0,0,0]:List Int).map fun n=>.v (.int .u8 n)
def k4:List AV:=[(.mp 12)]
def k3:List AV:=[(.mp 13)]
def k6:List AV:=[(.sl 14 0 3 3)]
def k14:List AV:=[(.v (.int .i64 (4))),(.v (.int .i64 (1))),(.v (.int .i64 (100))),(.v (.int .i64 (-1))),(.v (.int .i64 (400))),(.v (.int .i64 (1)))]
def k2:List AV:=([31,28,31,30,31,30,31,31,30,31,30,31]:List Int).map fun n=>.v (.int .i64 n)
def k0:List AV:=([3,3,6,3,9,3,12,3,3,3,6,3,9,3,12,3,9,3,12,3,3,3,6,3,1,3,4,3,7,3,10,3,1,4,5,4,9,4,1,6,7,6]:List Int).map fun n=>.v (.int .i64 n)
def k7:List AV:=([240,240,240,240,240,240,240,240,240,240,240,240,240,240,240,240,240,240,240,240,240,240,240,240,240,240,240,240,240,240,240,240,240,240,240,240,240,240,240,240,240,240,240,240,240,240,240,240,240,240,240,240,240,240,240,240,240,240,240,240,240,240,240,240,240,240,240,240,240,240,240,240,240,240,240,240,240,240,240,240,240,240,240,240,240,240,240,240,240,240,240,240,240,240,240,240,240,240,240,240,240,240,240,240,240,240,240,240,240,240,240,240,240,240,240,240,240,240,240,240,240,240,240,240,240,240,240,240,241,241,241,241,241,241,241,241,241,241,241,241,241,241,241,241,241,241,241,241,241,241,241,241,241,241,241,241,241,241,241,241,241,241,241,241,241,241,241,241,241,241,241,241,241,241,241,241,241,241,241,241,241,241,241,241,241,241,241,241,241,241,241,241,241,241,2,2,2,2,2,2,2,2,2,2,2,2,2,2,2,2,2,2,2,2,2,2,2,2,2,2,2,2,2,2,19,3,3,3,3,3,3,3,3,3,3,3,3,35,3,3,52,4,4,4,68,241,241,241,241,241,241,241,241,241,241,241]:List Int).map fun n=>.v (.int .u8 n)
def hp:Tr HO:=(.node (some (.ro k0)) (.node none (.node (some (.ro k3)) (.node (some (.ro k7)) .nil .nil) .nil) (.node (some (.ro k5)) (.node (some (.ro k9)) .nil .nil) .nil)) (.node (some (.ro k2)) (.node (some (.ro k4)) (.node (some (.ro k8)) .nil .nil) .nil) (.node (some (.ro k6)) (.node (some (.ro k10)) .nil .nil) (.node (some (.ro k14)) .nil .nil))))
def U3:List (Nat × List AV):=[(9,k9),(10,k10),(5,k5),(8,k8),(4,k4),(3,k3),(6,k6),(14,k14),(2,k2),(0,k0),(7,k7)]
def fs0:List (Nat × List Value):=[]
theorem hp_eq:E8 (U3++fixed fs0)=hp:=by kernel_rfl
theorem aNT:layVars prog 12 (Rows.qualitiesErrorsRow.laid.filter fun x=>x.2.handleName?.isNone) 12=some (U3,15):=by kernel_rfl
theorem aOk{w0:World}(hl:laidMetH prog Rows.qualitiesErrorsRow.laid w0):G8 12 w0 fs0:=G8.nil
def aSn:List (TypeId × String × FuncId):=[]
theorem aCh:aSn.all (fun e=>aKC prog e.1 e.2.1 e.2.2)=true:=by kernel_rfl
def BJ:Tab:=⟨prog,⟨12,fun _=>⟨0,0,.nilIface⟩⟩,15,tys,fns,fun _ _=>none,fun f=>Nat.beq f 228,fun f=>Bool.rec (motive:=fun _=>Option TypeId) none (some 5) (Nat.beq f 230),aKB aSn,fun _ _ _=>none,fun _ _ _=>none⟩
abbrev LG:Nat:=11
abbrev X4(i:Nat):AV:=ltr LG (.int .i8 0) i
abbrev GR(i:Nat):AV:=ltr LG (.int .i64 0) i
abbrev X3(i:Nat):AV:=ltr LG (.int .u8 0) i
abbrev mD(i:Nat):AV:=ltr LG (.int .u16 0) i
abbrev l_b(i:Nat):AV:=ltr LG (.bool false) i
abbrev l_s(i:Nat):AV:=ltr LG (.string ⟨#[]⟩) i
abbrev EZ(i:Nat):AV:=ltr LG (.slice none 0 0) i
theorem aHc: ∀f,BJ.idn f=true-> ∀x w,(callFunc f #[x]).run BJ.p w=.ok (.value x) w:=fun f h x w=>by
 have hf:f=228:=aEE h;subst hf;show(callFunc 228 #[x]).run prog w=_;rw[run_callFunc_extern (P:=prog) (fn:=Tryz.f228) (by kernel_rfl) (by kernel_rfl) (by kernel_rfl) (by kernel_rfl) (e:=Extern.AbiNoEscape.same) (by kernel_rfl)];rw[Lib.run_noEscape]
 rfl
theorem aGS: ∀f e,BJ.mnz f=some e-> ∀(n:Nat) w,n<=140737488355328-> ∃cs:Array Value,(callFunc f #[.int .i64 n]).run BJ.p w=.ok (.value (.slice (some ⟨w.heap.size,0,none⟩) n cs.size)) (w.drew.drew.alloc (.cells cs e))/\n<=cs.size:=fun f e h n w hn=>by
 have hf:f=230/\e=5:=by
  have h:(Bool.rec (motive:=fun _=>Option TypeId) none (some 5) (Nat.beq f 230):Option TypeId)=some e:=h;cases hb:Nat.beq f 230 with
  |false=>rw[hb]at h;cases h
  |true=>rw[hb]at h;cases h;exact⟨aEE hb,rfl⟩
 obtain⟨rfl,rfl⟩:=hf;obtain⟨cs,h1,h2,_⟩:=Lib.run_makeNoZero (P:=prog) w #[3] 90 5 (by kernel_rfl) n (by omega);refine⟨cs,?_,h2⟩;show(callFunc 230 #[.int .i64 n]).run prog w=_;rw[run_callFunc_extern (P:=prog) (fn:=f230) (by kernel_rfl) (by kernel_rfl) (by kernel_rfl) (by kernel_rfl) (e:=Extern.BytealgMakeNoZero.makeNoZero #[3] #[90]) (by kernel_rfl),h1]
 rfl
theorem jZ(w:World):jY BJ w:=aE6 aMV aHx Tryz.pinned.checked.mixed (fun _ _ _ h=>by cases h) ⟨fun _ _ _ _ h=>(by cases h),fun _ _ _ _ h=>(by cases h)⟩ aHc aGS (aCi aCh)
theorem aDc{w0:World}(hl:laidMetH prog Rows.qualitiesErrorsRow.laid w0):lI BJ.g.n BJ.l w0 hp:=aAg (OU hl) (aOk hl) aNT hp_eq
def tb0:Tab:={ BJ with l:=12 }
theorem jO(w:World):jY tb0 w:=let t:=jZ w;⟨t.ty,t.fn,t.orc,⟨fun _ _ _ _ h=>(by cases h),fun _ _ _ _ h=>(by cases h)⟩,t.mixed,t.idn,t.mnz,t.met⟩
theorem O8(w:World):lI tb0.g.n tb0.l w .nil:=aAg (P:=prog) (L:=[]) (fs:=[]) (bs:=[]) ⟨[],by constructor,List.nodup_nil,fun _ _ h=>by cases h⟩ G8.nil rfl rfl
def ZE(y:Int):Int:=1+(y - 1) / 4 - (y - 1) / 100+(y - 1) / 400
def st(y:Int):Int:=365 * y+ZE y
def leap(y:Int):Bool:=decide (y % 4=0)&&(decide (y % 100≠0)||decide (y % 400=0))
def lp(y:Int):Int:=if leap y then 1 else 0
theorem aCj(y:Int):0<=lp y/\lp y<=1:=by unfold lp;split<;>omega
theorem ZC(y:Int):ZE (y+1)=ZE y+lp y:=by
 unfold ZE lp leap;by_cases h4:y % 4=0<;>by_cases h1:y % 100=0<;>by_cases h5:y % 400=0<;>simp[h4,h1,h5]<;>omega
theorem st_succ(y:Int):st (y+1)=st y+365+lp y:=by
 unfold st;rw[ZC];omega
def aYT(y m:Int):Int:=if m=2 then 28+lp y else if m=4\/m=6\/m=9\/m=11 then 30 else 31
def nC(y m:Int):Int:=if m<=1 then 0 else if m<=2 then 31 else(if m<=3 then 59 else if m<=4 then 90 else if m<=5 then 120 else if m<=6 then 151 else if m<=7 then 181 else if m<=8 then 212 else if m<=9 then 243 else if m<=10 then 273 else if m<=11 then 304 else if m<=12 then 334 else 365)+lp y
theorem xK(y m:Int)(h1:1<=m)(h2:m<=12):nC y (m+1)=nC y m+aYT y m:=by
 unfold nC aYT;have:m=1\/m=2\/m=3\/m=4\/m=5\/m=6\/m=7\/m=8\/m=9\/m=10\/m=11\/m=12:=by omega
 rcases this with rfl|rfl|rfl|rfl|rfl|rfl|rfl|rfl|rfl|rfl|rfl|rfl<;>simp<;>omega
theorem rZ(y m:Int):28<=aYT y m/\aYT y m<=31:=by
 have:=aCj y;unfold aYT;split
 . omega
 split<;>omega
theorem FN{y m:Int}(h1:1<=m)(h2:m<=13):0<=nC y m/\nC y m<=366:=by
 have:=aCj y;unfold nC;have:m=1\/m=2\/m=3\/m=4\/m=5\/m=6\/m=7\/m=8\/m=9\/m=10\/m=11\/m=12\/m=13:=by omega
 rcases this with rfl|rfl|rfl|rfl|rfl|rfl|rfl|rfl|rfl|rfl|rfl|rfl|rfl<;>simp<;>omega
theorem JE(y:Int):nC y 1=0:=by unfold nC;simp
theorem YT(y:Int):nC y 13=365+lp y:=by unfold nC;simp
theorem aHZ{y a b:Int}(h1:1<=a)(h:a<b)(h2:b<=13):nC y a+aYT y a<=nC y b:=by
 obtain⟨n,rfl⟩: ∃n:Nat,b=a+1+n:=⟨(b - a - 1).toNat,by omega⟩;clear h
 induction n with
 |zero=>have:=xK y a h1 (by omega);simp;omega
 |succ n ih=>
  have h3:=ih (by omega);have h4:=xK y (a+1+n) (by omega) (by omega);have h5:=rZ y (a+1+n);rw[show a+1+((n+1:Nat):Int)=a+1+n+1 by omega];omega
end
section
open Go.RowKit
theorem ri{k:IntKind}{a b:Int}(h:a=b):Ending.returned (.int k a)=.returned (.int k b):=by rw[h]
theorem rb{a b:Bool}(h:a=b):Ending.returned (.bool a)=.returned (.bool b):=by rw[h]
theorem dH{a b c d:Int}{k k':IntKind}(h:a=b)(h2:c=d):Ending.returned (.tuple #[.int k a,.int k' c])=.returned (.tuple #[.int k b,.int k' d]):=by rw[h,h2]
theorem fG{a b:Bool}{c d:Int}{k:IntKind}(h:a=b)(h2:c=d):Ending.returned (.tuple #[.bool a,.int k c])=.returned (.tuple #[.bool b,.int k d]):=by rw[h,h2]
theorem FH{a b:Int}(hb:0<b):
 (a.tmod b≠0/\a<0->a.tdiv b - 1=a / b/\a.tmod b+b=a % b)/\(a.tmod b=0\/0<=a->a.tdiv b=a / b/\a.tmod b=a % b)/\(a.tmod b≠0->(a.tmod b<0↔a<0)):=by
 have h1:=@Int.tdiv_eq_ediv a b;have h2:=@Int.tmod_eq_emod a b;rw[Int.sign_eq_one_of_pos hb]at h1;have h3:=aUh a (show b≠0 by omega);have h4:=aUL a hb;by_cases c:0<=a\/b ∣ a
 . rw[aEo c]at h1 h2;simp only[aX6,Int.sub_zero,aYE]at h1 h2;refine⟨fun⟨h5,h6⟩=>?_,fun _=>⟨h1,h2⟩,fun h5=>?_⟩
   . exfalso;rcases c with c|c
     . omega
     exact h5 (aU0 c)
   rcases c with c|c
   . constructor<;>intro h<;>omega
   exact absurd (aU0 c) h5
 rw[aEg c]at h1 h2;have hn:(b.natAbs:Int)=b:=by omega
 rw[hn]at h2;have ha:a<0:=by
  by_cases q:a<0
  . exact q
  exact absurd (Or.inl (by omega)) c
 have h5:a.tmod b≠0:=fun h=>c (Or.inr (aYr h));refine⟨fun _=>⟨by omega,by omega⟩,fun h=>?_,fun _=>⟨fun _=>ha,fun _=>by omega⟩⟩;rcases h with h|h
 . exact absurd h h5
 omega
theorem wrap_in{n:Int}(h0: -9223372036854775808<=n)(h1:n<9223372036854775808):wrap64 n=n:=by
 unfold wrap64;omega
theorem DR{a b:Int}(hb:1<b)(h0: -9223372036854775808<=a)(h1:a<9223372036854775808): -9223372036854775808<=a / b/\a / b<9223372036854775808:=by
 refine⟨(Int.le_ediv_iff_mul_le (by omega)).2 (by omega),(Int.ediv_lt_iff_lt_mul (by omega)).2 (by omega)⟩
theorem CZ(a b:Int)(w:World)(hb:1<b)(hb2:b<9223372036854775808)(h0: -9223372036854775808<=a)(h1:a<9223372036854775808):
 Calls prog 261 #[.int .i64 a,.int .i64 b] w fun e w'=>e=.returned (.tuple #[.int .i64 (a / b),.int .i64 0])/\w=w':=by
 obtain⟨c1,c2,c3⟩:=@FH a b (by omega);have b0:(b==0)=false:=by rw[aEB];omega
 have b1:(b== -1)=false:=by rw[aEB];omega
 have b2:decide (b<0)=false:=aBW (by omega);by_cases ha:0<=a
 . have a2:decide (a<0)=false:=aBW (by omega);clear c1 c2 c3;by_cases hz:a % b=0
   . have hz2:(a % b !=0)=false:=by rw[hz];rfl
     have HZ:=aAC hz;clear hz;go_enter func261,ntmps261
     go_wp2
     go_ret2;exact⟨dH (by first|rfl|exact HZ.out.symm) rfl,rfl⟩
   have hz2:(a % b !=0)=true:=by rw[aRp];exact hz
   have m2:decide (a % b<0)=false:=aBW (by have:=aUh a (show b≠0 by omega);omega);clear hz;go_enter func261,ntmps261
   go_wp2
   go_ret2;exact⟨rfl,rfl⟩
 have a2:decide (a<0)=true:=aDx (by omega);by_cases hz:a.tmod b=0
 . obtain⟨e1,e2⟩:=c2 (Or.inl hz);have hz2:(a.tmod b !=0)=false:=by rw[hz];rfl
   have E1:=aAC e1;have E2:=aAC e2;clear hz e1 e2 c1 c2 c3;go_enter func261,ntmps261
   go_wp2
   go_ret2;exact⟨dH E1.out rfl,rfl⟩
 obtain⟨e1,e2⟩:=c1 ⟨hz,by omega⟩;have hz2:(a.tmod b !=0)=true:=by rw[aRp];exact hz
 have m2:decide (a.tmod b<0)=true:=aDx ((c3 hz).2 (by omega));have w1:wrap64 (a.tdiv b - 1)=a / b:=by rw[e1];exact wrap_in (DR hb h0 h1).1 (DR hb h0 h1).2
 have w2:wrap64 (a.tmod b+b)=a % b:=by rw[e2];exact wrap_in (by have:=aUh a (show b≠0 by omega);omega) (by have:=aUL a (show 0<b by omega);omega)
 have E1:=aAC e1;have E2:=aAC e2;clear hz e1 e2 c1 c2 c3;go_enter func261,ntmps261
 go_wp2
 go_ret2;exact⟨rfl,rfl⟩
theorem aCn(a b:Int)(w:World)(hb:1<b)(hb2:b<9223372036854775808)(h0: -9223372036854775808<=a)(h1:a<9223372036854775808):
 Calls prog 262 #[.int .i64 a,.int .i64 b] w fun e w'=>e=.returned (.tuple #[.int .i64 (a % b),.int .i64 0])/\w=w':=by
 obtain⟨c1,c2,c3⟩:=@FH a b (by omega);have b0:(b==0)=false:=by rw[aEB];omega
 have b1:(b== -1)=false:=by rw[aEB];omega
 have b2:decide (b<0)=false:=aBW (by omega);by_cases ha:0<=a
 . have a2:decide (a<0)=false:=aBW (by omega);clear c1 c2 c3;by_cases hz:a % b=0
   . have hz2:(a % b !=0)=false:=by rw[hz];rfl
     have HZ:=aAC hz;clear hz;go_enter func262,ntmps262
     go_wp2
     go_ret2;exact⟨dH (by first|rfl|exact HZ.out.symm) rfl,rfl⟩
   have hz2:(a % b !=0)=true:=by rw[aRp];exact hz
   have m2:decide (a % b<0)=false:=aBW (by have:=aUh a (show b≠0 by omega);omega);clear hz;go_enter func262,ntmps262
   go_wp2
   go_ret2;exact⟨rfl,rfl⟩
 have a2:decide (a<0)=true:=aDx (by omega);by_cases hz:a.tmod b=0
 . obtain⟨e1,e2⟩:=c2 (Or.inl hz);have hz2:(a.tmod b !=0)=false:=by rw[hz];rfl
   have E1:=aAC e1;have E2:=aAC e2;clear hz e1 e2 c1 c2 c3;go_enter func262,ntmps262
   go_wp2
   go_ret2;exact⟨dH E2.out rfl,rfl⟩
 obtain⟨e1,e2⟩:=c1 ⟨hz,by omega⟩;have hz2:(a.tmod b !=0)=true:=by rw[aRp];exact hz
 have m2:decide (a.tmod b<0)=true:=aDx ((c3 hz).2 (by omega));have w1:wrap64 (a.tdiv b - 1)=a / b:=by rw[e1];exact wrap_in (DR hb h0 h1).1 (DR hb h0 h1).2
 have w2:wrap64 (a.tmod b+b)=a % b:=by rw[e2];exact wrap_in (by have:=aUh a (show b≠0 by omega);omega) (by have:=aUL a (show 0<b by omega);omega)
 have E1:=aAC e1;have E2:=aAC e2;clear hz e1 e2 c1 c2 c3;go_enter func262,ntmps262
 go_wp2
 go_ret2;exact⟨rfl,rfl⟩
theorem jL(y:Int)(w:World)(h0: -10000000000000000<=y)(h1:y<=10000000000000000):
 Calls prog 243 #[.int .i64 y] w fun e w'=>e=.returned (.int .i64 0)/\w=w':=by
 go_enter func243,ntmps243
 go_wp2
 go_ret;exact⟨rfl,rfl⟩
theorem zG(y:Int)(w:World)(h:y< -10000000000000000\/10000000000000000<y):
 Calls prog 243 #[.int .i64 y] w fun e w'=>e=.returned (.int .i64 6)/\w=w':=by
 rcases h with h|h
 . go_enter func243,ntmps243
   go_wp2
   go_ret;exact⟨rfl,rfl⟩
 have h2: ¬y< -10000000000000000:=by omega
 go_enter func243,ntmps243
 go_wp2
 go_ret;exact⟨rfl,rfl⟩
def qC(w:World):Prop:= ∃b o,w.cell? ⟨6,0,none⟩=some (.slice (some ⟨b,o,none⟩) 3 3)/\
 w.cell? ⟨b,o,none⟩=some (.int .i64 4)/\w.cell? ⟨b,o+1,none⟩=some (.int .i64 1)/\
 w.cell? ⟨b,o+2,none⟩=some (.int .i64 100)/\w.cell? ⟨b,o+3,none⟩=some (.int .i64 (-1))/\
 w.cell? ⟨b,o+4,none⟩=some (.int .i64 400)/\w.cell? ⟨b,o+5,none⟩=some (.int .i64 1)
theorem qC.below{w w':World}(h:qC w)(hb:Below w.heap.size w w'):qC w':=by
 obtain⟨b,o,h0,h1,h2,h3,h4,h5,h6⟩:=h;exact⟨b,o,aSV hb h0,aSV hb h1,aSV hb h2,aSV hb h3,aSV hb h4,aSV hb h5,aSV hb h6⟩
theorem ba{W w:World}(h:Below W.heap.size W w)(o:Obj):Below W.heap.size W (w.alloc o):=h.alloc h.size o
theorem aYR{W w w2:World}(h:Below W.heap.size W w)(h2:Below w.heap.size w w2):Below W.heap.size W w2:=h.trans (h2.mono h.size)
theorem BH(y:Int)(w:World)(hs:qC w)(h0: -30000000000000000<=y)(h1:y<=30000000000000000):
 Calls prog 280 #[.int .i64 y] w fun e w'=>e=.returned (.int .i64 (ZE y))/\Below w.heap.size w w':=by
 obtain⟨b,o,g0,g1,g2,g3,g4,g5,g6⟩:=hs;have l0:=aO4 _ _ g0;have l1:=aO4 _ _ g1;go_enter func280,ntmps280
 go_wp2
 refine wp_loop_rounds 4 ?_;rw[aX8]
 go_wp2_with (go_at_call 261;refine(CZ _ _ _ (by omega) (by omega) (by omega) (by omega)).mono ?_;rintro e w' ⟨rfl,rfl⟩)
 rw[aX8]
 go_wp2_with (go_at_call 261;refine(CZ _ _ _ (by omega) (by omega) (by omega) (by omega)).mono ?_;rintro e w' ⟨rfl,rfl⟩)
 rw[aX8]
 go_wp2_with (go_at_call 261;refine(CZ _ _ _ (by omega) (by omega) (by omega) (by omega)).mono ?_;rintro e w' ⟨rfl,rfl⟩)
 rw[aX8]
 go_wp2
 go_ret;exact⟨ri (by unfold ZE;omega),ba (ba (ba (aDA _ _) _) _) _⟩
theorem aOO{y:Int}(h0: -30000000000000000<=y)(h1:y<=30000000000000000): -30000000000000000<=ZE y/\ZE y<=30000000000000000:=by
 unfold ZE;omega
theorem QX{y:Int}(h0: -25000000000000000<=y)(h1:y<=25000000000000000): -9200000000000000000<=st y/\st y<=9200000000000000000:=by
 unfold st ZE;omega
theorem O7(y:Int)(w:World)(hs:qC w)(h0: -25000000000000000<=y)(h1:y<=25000000000000000):
 Calls prog 244 #[.int .i64 y] w fun e w'=>e=.returned (.int .i64 (st y))/\Below w.heap.size w w':=by
 have hb:=aOO (y:=y) (by omega) (by omega);have hb2:=QX h0 h1;have e:365 * y+ZE y=st y:=rfl;have k1: -9200000000000000000<=365 * y+ZE y:=by omega
 have k2:365 * y+ZE y<=9200000000000000000:=by omega
 have E:=aAC e;clear e hb2;go_enter func244,ntmps244
 go_wp2_with (go_at_call 280;refine(BH _ _ hs (by omega) (by omega)).mono ?_;rintro e w' ⟨rfl,hb1⟩)
 go_ret;exact⟨ri E.out,hb1⟩
theorem zF(y:Int)(w:World)(hs:qC w)(h0: -10000000000000000<=y)(h1:y<=10000000000000000):
 Calls prog 186 #[.int .i64 y] w fun e w'=>e=.returned (.tuple #[.int .i64 (st y),.int .i64 0])/\Below w.heap.size w w':=by
 go_enter func186,ntmps186
 go_wp2_with (first|(go_at_call 243;refine(jL _ _ (by omega) (by omega)).mono ?_;rintro e w' ⟨rfl,rfl⟩)|(go_at_call 244;refine(O7 _ _ hs (by omega) (by omega)).mono ?_;rintro e w' ⟨rfl,hb1⟩))
 go_ret2;exact⟨rfl,hb1⟩
theorem U9(y:Int)(w:World)(hs:qC w)(h0: -10000000000000000<=y)(h1:y<=10000000000000000):
 Calls prog 187 #[.int .i64 y] w fun e w'=>e=.returned (.tuple #[.int .i64 (st (y+1) - 1),.int .i64 0])/\Below w.heap.size w w':=by
 have hb2:=QX (y:=y+1) (by omega) (by omega);obtain⟨k1,k2⟩:=hb2;go_enter func187,ntmps187
 go_wp2_with (first|(go_at_call 243;refine(jL _ _ (by omega) (by omega)).mono ?_;rintro e w' ⟨rfl,rfl⟩)|(go_at_call 244;refine(O7 _ _ hs (by omega) (by omega)).mono ?_;rintro e w' ⟨rfl,hb1⟩))
 go_ret2;exact⟨rfl,hb1⟩
theorem QO(y:Int)(w:World)(hs:qC w)(h0: -10000000000000000<=y)(h1:y<=10000000000000000):
 Calls prog 273 #[.int .i64 y] w fun e w'=>e=.returned (.tuple #[.bool (leap y),.int .i64 0])/\Below w.heap.size w w':=by
 have e:decide (ZE y<ZE (y+1))=leap y:=by
  rw[ZC];unfold lp;cases leap y
  . exact aBW (by simp)
  exact aDx (by simp;omega)
 have E:=aAC e;clear e;go_enter func273,ntmps273
 go_wp2_with fail
 refine(jL _ _ (by omega) (by omega)).mono ?_;rintro e w' ⟨rfl,rfl⟩
 go_wp2_with fail
 refine(BH _ _ hs (by omega) (by omega)).mono ?_;rintro e w1 ⟨rfl,hb1⟩
 go_wp2_with fail
 refine(BH _ _ (hs.below hb1) (by omega) (by omega)).mono ?_;rintro e w2 ⟨rfl,hb2⟩
 go_wp2
 go_ret2;exact⟨fG E.out rfl,aYR hb1 hb2⟩
theorem vi{k:IntKind}{a b:Int}(h:a=b):Value.int k a=Value.int k b:=by rw[h]
def ml(i:Nat):Int:=if i=1 then 28 else if i=3\/i=5\/i=8\/i=10 then 30 else 31
def yY(w:World):Prop:= ∀i:Nat,i<12->w.cell? ⟨2,i,none⟩=some (.int .i64 (ml i))
theorem yY.below{w w':World}(h:yY w)(hb:Below w.heap.size w w'):yY w':=fun i hi=>aSV hb (h i hi)
structure G9(w:World):Prop where
 steps:qC w
 lens:yY w
theorem G9.below{w w':World}(h:G9 w)(hb:Below w.heap.size w w'):G9 w':=⟨h.steps.below hb,h.lens.below hb⟩
theorem aGU{y:Int}{n:Nat}(h:n<12)(hl:leap y=false\/n≠1):ml n=aYT y ((n:Int)+1):=by
 unfold ml aYT lp;rcases hl with hl|hl
 . rw[hl];simp only[aMB,aPv]
   (repeat' split)<;>omega
 (repeat' split)<;>omega
theorem AQ(y m:Int)(w:World)(hs:G9 w)(h0: -10000000000000000<=y)(h1:y<=10000000000000000)(m0:1<=m)(m1:m<=12):
 Calls prog 234 #[.int .i64 y,.int .i64 m] w fun e w'=>e=.returned (.int .i64 (aYT y m))/\Below w.heap.size w w':=by
 obtain⟨n,rfl⟩: ∃n:Nat,m=(n:Int)+1:=⟨(m - 1).toNat,by omega⟩;have hn:n<12:=by omega
 have HC:=aAC (fun(W:World) (hb:Below w.heap.size w W)=>(hs.below hb).lens n hn);have HL:=aAC (QO y w hs.steps h0 h1);have i0:(0:Int)<=(n:Int):=by omega
 have i1:(n:Int)<12:=by omega
 by_cases hl:leap y=true
 . rw[hl]at HL;by_cases h2:n=1
   . subst h2;have e:29=aYT y ((1:Nat)+1):=by unfold aYT lp;rw[hl];rfl
     have E:=aAC e;clear e hl;go_enter func234,ntmps234
     go_wp2_with (go_at_call 273;refine HL.out.mono ?_;rintro e w' ⟨rfl,hb1⟩)
     go_ret;exact⟨ri E.out,hb1⟩
   have E:=aAC (aGU (y:=y) hn (Or.inr h2));have t:((n:Int)+1==2)=false:=by rw[aEB];omega
   clear h2 hl;go_enter func234,ntmps234
   go_wp2_with fail
   refine HL.out.mono ?_;rintro e w' ⟨rfl,hb1⟩;have hc:=HC.out _ hb1
   go_wp2
   go_ret;exact⟨ri E.out,hb1⟩
 have hl2:leap y=false:=by cases h:leap y;rfl;exact absurd h hl
 rw[hl2]at HL;have E:=aAC (aGU (y:=y) hn (Or.inl hl2));clear hl hl2;go_enter func234,ntmps234
 go_wp2_with fail
 refine HL.out.mono ?_;rintro e w' ⟨rfl,hb1⟩;have hc:=HC.out _ hb1
 go_wp2
 go_ret;exact⟨ri E.out,hb1⟩
def II(y m:Int):Int:=if -10000000000000000<=y/\y<=10000000000000000 then(if 1<=m/\m<=12 then 0 else 7)else 6
theorem lW(y m:Int)(w:World):
 Calls prog 233 #[.int .i64 y,.int .i64 m] w fun e w'=>e=.returned (.int .i64 (II y m))/\w=w':=by
 by_cases c: -10000000000000000<=y/\y<=10000000000000000
 . by_cases c2:1<=m/\m<=12
   . have E:Hid (0=II y m):=aAC (by unfold II;rw[aEo c,aEo c2]);obtain⟨a,b⟩:=c;obtain⟨p,q⟩:=c2;go_enter func233,ntmps233
     go_wp2_with (go_at_call 243;refine(jL _ _ (by omega) (by omega)).mono ?_;rintro e w' ⟨rfl,rfl⟩)
     go_ret;exact⟨ri E.out,rfl⟩
   have E:Hid (7=II y m):=aAC (by unfold II;rw[aEo c,aEg c2]);obtain⟨a,b⟩:=c;by_cases p:m<1
   . clear c2;go_enter func233,ntmps233
     go_wp2_with (go_at_call 243;refine(jL _ _ (by omega) (by omega)).mono ?_;rintro e w' ⟨rfl,rfl⟩)
     go_ret;exact⟨ri E.out,rfl⟩
   have q:12<m:=by omega
   clear c2;go_enter func233,ntmps233
   go_wp2_with (go_at_call 243;refine(jL _ _ (by omega) (by omega)).mono ?_;rintro e w' ⟨rfl,rfl⟩)
   go_ret;exact⟨ri E.out,rfl⟩
 have E:Hid (6=II y m):=aAC (by unfold II;rw[aEg c]);have C:Hid (y< -10000000000000000\/10000000000000000<y):=aAC (by omega);clear c;go_enter func233,ntmps233
 go_wp2_with (go_at_call 243;refine(zG _ _ C.out).mono ?_;rintro e w' ⟨rfl,rfl⟩)
 go_ret;exact⟨ri E.out,rfl⟩
theorem mW(y m:Int)(w:World)(hs:G9 w)(h0: -10000000000000000<=y)(h1:y<=10000000000000000)(m0:1<=m)(m1:m<=12):
 Calls prog 190 #[.int .i64 y,.int .i64 m] w fun e w'=>e=.returned (.tuple #[.int .i64 (st y+nC y m),.int .i64 0])/\Below w.heap.size w w':=by
 obtain⟨n,rfl⟩: ∃n:Nat,m=(n:Int)+1:=⟨(m - 1).toNat,by omega⟩;have e:II y ((n:Int)+1)=0:=by unfold II;rw[aEo ⟨h0,h1⟩,aEo ⟨m0,m1⟩]
 have HM:=lW y ((n:Int)+1) w;rw[e]at HM;have HM:=aAC HM;obtain⟨b0,b1⟩:=QX (y:=y) (by omega) (by omega);have HS:=aAC hs;clear hs e;go_enter func190,ntmps190
 go_wp2_with (first|(go_at_call 233;refine HM.out.mono ?_;rintro e w' ⟨rfl,rfl⟩)|(go_at_call 186;refine(zF _ _ HS.out.steps (by omega) (by omega)).mono ?_;rintro e w' ⟨rfl,hb1⟩))
 have HB:=aAC hb1;clear hb1
 go_loopw [7,9,23] (fun d i j wr=> ∃k:Nat,k<=n/\d=.int .i64 (st y+nC y ((k:Int)+1))/\j=.int .i64 (k:Int)/\Below w.heap.size w wr) (fun _ _ j _=>n - (intOf j).toNat)
 case atStart=>exact⟨0,by omega,by rw[show ((0:Nat):Int)+1=1 from rfl,JE,aYE],rfl,HB.out⟩
 case round=>
  obtain⟨k,hk,rfl,rfl,hb⟩:=hrel;have HB2:=aAC hb;clear hb;have cb:=@FN y ((k:Int)+1) (by omega) (by omega);by_cases hlt:k<n
  . have hl:=rZ y ((k:Int)+1);have hcs:=xK y ((k:Int)+1) (by omega) (by omega);have HCS:=aAC hcs;clear hcs
    go_wp2_with (go_at_call 234;refine(AQ _ _ _ (HS.out.below HB2.out) (by omega) (by omega) (by omega) (by omega)).mono ?_;rintro e w' ⟨rfl,hb3⟩)
    have HB3:=aAC (aYR HB2.out hb3);clear hb3;go_roundw
    case rel=>exact⟨k+1,by omega,vi (by rw[show ((k+1:Nat):Int)+1=(k:Int)+1+1 by omega,HCS.out];omega),by go_num,HB3.out⟩
    case measure=>simp[intOf];omega
  have e:k=n:=by omega
  subst e
  go_wp2
  go_ret2;exact⟨rfl,HB2.out⟩
theorem CS(y m:Int)(w:World)(hs:G9 w)(h0: -10000000000000000<=y)(h1:y<=10000000000000000)(m0:1<=m)(m1:m<=12):
 Calls prog 191 #[.int .i64 y,.int .i64 m] w fun e w'=>e=.returned (.tuple #[.int .i64 (st y+nC y (m+1) - 1),.int .i64 0])/\Below w.heap.size w w':=by
 obtain⟨b0,b1⟩:=QX (y:=y) (by omega) (by omega);have cb:=@FN y m (by omega) (by omega);have lb:=rZ y m;have E:Hid (st y+nC y m+aYT y m - 1=st y+nC y (m+1) - 1):=aAC (by rw[xK y m m0 m1];omega);go_enter func191,ntmps191
 go_wp2_with fail
 refine(mW _ _ _ hs h0 h1 m0 m1).mono ?_;rintro e w1 ⟨rfl,hb1⟩
 go_wp2_with fail
 refine(AQ _ _ _ (hs.below hb1) h0 h1 m0 m1).mono ?_;rintro e w2 ⟨rfl,hb2⟩
 go_wp2
 go_ret2;exact⟨dH E.out rfl,aYR hb1 hb2⟩
end
section
open Go.RowKit Go.Lib
structure Rw(p:Nat)(vs:List Value)(w W:World):Prop where
 cell: ∀i v,vs[i]? =some v->W.cell? ⟨p,i,none⟩=some v
 free: ∀i,i<vs.length->W.frozen? ⟨p,i,none⟩=false
 new:w.heap.size<=p
 lt:p<W.heap.size
 below:Below w.heap.size w W
theorem Rw.later{p:Nat}{vs:List Value}{w W W2:World}(h:Rw p vs w W)(hb:Below W.heap.size W W2):Rw p vs w W2:=
 ⟨fun i v hv=>(hb.cell (p:=⟨p,i,none⟩) h.lt).trans (h.cell i v hv),fun i hi=>(hb.frozen (p:=⟨p,i,none⟩) h.lt).trans (h.free i hi),h.new,by have:=h.lt;have:=hb.size;omega,aYR h.below hb⟩
theorem Rw.range{p:Nat}{vs:List Value}{w W:World}(h:Rw p vs w W):W.rangeAt p 0 vs:=fun j v hv=>by rw[aHG];exact h.cell j v hv
theorem Rw.there{p:Nat}{vs:List Value}{w W:World}(h:Rw p vs w W):W.there p 0 vs.length:=fun j hj=>by
 rw[aHG,h.cell j _ (aE5 hj)];exact⟨rfl,h.free j hj⟩
theorem Rw.fresh{w W:World}(hb:Below w.heap.size w W)(vs:List Value)(t:TypeId):Rw W.heap.size vs w (W.alloc (.cells vs.toArray t)):=
 ⟨fun i v hv=>by rw[World.cell?_alloc_new];simpa using hv,fun i hi=>by simp,hb.size,by show W.heap.size<(W.heap.push _).size;simp,ba hb _⟩
theorem vM(p:Nat)(b:Addr): ∀(vs:List Value) (k:Nat) (W:World),(W.setCells p k vs).frozen? b=W.frozen? b
 |[],_,_=>rfl
 |u::r,k,W=>by unfold World.setCells;rw[vM p b r,aPr]
theorem wH{p:Nat}{w:World}(hp:w.heap.size<=p): ∀(vs:List Value) (k:Nat) (W:World),Below w.heap.size w W->Below w.heap.size w (W.setCells p k vs)
 |[],_,_,h=>h
 |u::r,k,W,h=>by unfold World.setCells;exact wH hp r _ _ (h.setCell hp _)
theorem setCells_size{p:Nat}: ∀(vs:List Value) (k:Nat) (W:World),(W.setCells p k vs).heap.size=W.heap.size
 |[],_,_=>rfl
 |u::r,k,W=>by unfold World.setCells;rw[setCells_size r];simp[World.setCell]
theorem zJ{p:Nat}: ∀(vs:List Value) (k:Nat) (W:World),(∀i,k<=i->i<k+vs.length->(W.cell? ⟨p,i,none⟩).isSome=true)-> ∀j v,vs[j]? =some v->(W.setCells p k vs).cell? ⟨p,k+j,none⟩=some v
 |[],k,W,_,j,v,hv=>by simp at hv
 | u::r,k,W,hs,j,v,hv=>by
  unfold World.setCells;cases j with
  |zero=>
   simp at hv;subst hv;rw[aUa p r (k+1) _ ⟨p,k+0,none⟩ (fun _ _=>.inl (by show k+0<k+1;omega))];obtain⟨x,hx⟩:=aO1.1 (hs k (aC4 _) (by simp));exact aUb _ _ _ hx
  |succ j=>
   rw[show k+(j+1)=k+1+j by omega];refine zJ r (k+1) _ (fun i h1 h2=>?_) j v (by simpa using hv);rw[aOX _ _ _ _ (by intro e;injection e with _ e2;omega)];exact hs i (by omega) (by simp;omega)
theorem Rw.pJ{p:Nat}{vs:List Value}{w W:World}(h:Rw p vs w W)(us:List Value)(hl:us.length=vs.length):Rw p us w (W.setCells p 0 us):=by
 refine⟨fun i v hv=>?_,fun i hi=>by rw[vM];exact h.free i (by omega),h.new,by rw[setCells_size];exact h.lt,wH h.new _ _ _ h.below⟩;have:=zJ us 0 W (fun j _ hj=>by
  rw[h.cell j _ (aE5 (by omega))];rfl) i v hv
 rw[aHG]at this;exact this
theorem Rw.set{p:Nat}{vs:List Value}{w W:World}(h:Rw p vs w W)(k:Nat)(hk:k<vs.length)(v:Value):Rw p (vs.set k v) w (W.setCell ⟨p,k,none⟩ v):=by
 refine⟨fun i u hu=>?_,fun i hi=>by rw[aPr];exact h.free i (by simpa using hi),h.new,by show p<(W.heap.modify _ _).size;rw[aXW];exact h.lt,h.below.setCell h.new _⟩;by_cases c:k=i
 . subst c;rw[aVD hk]at hu;cases hu;exact aUb _ _ _ (h.cell k _ (aE5 hk))
 rw[aT6 c]at hu;rw[aOX _ _ _ _ (by intro e;injection e with e1 e2;exact c e2)];exact h.cell i u hu
theorem Rw.other{p q:Nat}{vs:List Value}{w W:World}(h:Rw p vs w W)(hne:q≠p)(hq:w.heap.size<=q)(k:Nat)(v:Value):Rw p vs w (W.setCell ⟨q,k,none⟩ v):=by
 refine⟨fun i u hu=>?_,fun i hi=>by rw[aPr];exact h.free i hi,h.new,by show p<(W.heap.modify _ _).size;rw[aXW];exact h.lt,h.below.setCell hq _⟩;rw[aOX _ _ _ _ (by intro e;injection e with e1 e2;exact hne e1)];exact h.cell i u hu
theorem Rw.others{p q:Nat}{vs:List Value}{w W:World}(h:Rw p vs w W)(hne:q≠p)(hq:w.heap.size<=q): ∀(us:List Value) (k:Nat),Rw p vs w (W.setCells q k us):=by
 intro us
 induction us generalizing W with
 |nil=>intro k;exact h
 |cons u r ih=>intro k;unfold World.setCells;exact ih (h.other hne hq k u) (k+1)
end
section
open Go.Lib
def fE(s:ByteArray)(i:Nat):Int:=((s.data.toList.getD i 0).toNat:Int)
theorem dJ(s:ByteArray)(i:Nat)(h:i<s.size):fE s i=((s[i]'h).toNat:Int):=by
 unfold fE;rw[List.getD_eq_getElem?_getD,aE5 (by simpa using h)]
 rfl
def aYP(q:Int->Bool)(s:ByteArray):Bool:=s.data.toList.all fun b=>q (b.toNat:Int)
theorem kU(q:Int->Bool)(s:ByteArray):aYP q s=true↔ ∀i,i<s.size->q (fE s i)=true:=by
 unfold aYP;rw[aIJ];constructor
 . intro h i hi;rw[dJ s i hi];exact h _ (by rw[aUi];exact aYp ..)
 intro h b hb;obtain⟨i,hi,rfl⟩:=aPo hb;have:=h i (by simpa using hi);rw[dJ s i (by simpa using hi)]at this;exact this
theorem X7 (q:Int->Bool) (p:Nat->Bool) (hp: ∀x:Nat,x<128->p x= !q x) (hh: ∀x:Nat,128<=x->p x=true) (hq: ∀x:Int,q x=true->x<128) (s:ByteArray):
 ∀(g pos:Nat),s.size<=pos+g->(idxFuncFrom p true s g pos<0↔ ∀i,pos<=i->i<s.size->q (fE s i)=true)
 |0,pos,hg=>by
  simp only[idxFuncFrom];exact⟨fun _ i h1 h2=>by omega,fun _=>by decide⟩
 | g + 1, pos,hg=>by
  unfold idxFuncFrom;by_cases hlt:pos<s.size
  . rw [aEo hlt];by_cases ha:(s[pos]'hlt).toNat<128
    . rw [aXX s pos hlt ha];dsimp only;rw[hp _ ha];cases hqb:q ((s[pos]'hlt).toNat:Int)
      . rw[aUn,aEo rfl];constructor
        . intro h;omega
        intro h;have:=h pos (aC4 _) hlt;rw[dJ s pos hlt,hqb]at this;cases this
      rw[aYt,aEg (by decide),X7 q p hp hh hq s g (pos+1) (by omega)];constructor
      . intro h i h1 h2;by_cases e:i=pos
        . subst e;rw[dJ s i h2];exact hqb
        exact h i (by omega) h2
      intro h i h1 h2;exact h i (by omega) h2
    obtain⟨h1,h2⟩:=decode_high s pos hlt (by omega);rw[hh _ h1,aEo rfl];constructor
    . intro h;omega
    intro h;have:=hq _ (h pos (aC4 _) hlt);rw[dJ s pos hlt]at this;omega
  rw[aEg hlt];exact⟨fun _ i h1 h2=>by omega,fun _=>by decide⟩
theorem aHb(q:Int->Bool)(p:Nat->Bool)(hp: ∀x:Nat,x<128->p x= !q x)(hh: ∀x:Nat,128<=x->p x=true)(hq: ∀x:Int,q x=true->x<128)(s:ByteArray):
 decide (idxFunc p true s<0)=aYP q s:=by
 have h:=X7 q p hp hh hq s s.size 0 (by omega);rw[aPg,aNF,kU];unfold idxFunc;rw[h];exact⟨fun h i hi=>h i (aLp _) hi,fun h i _ hi=>h i hi⟩
def hasB(c:Int)(s:ByteArray):Bool:=s.data.toList.any fun b=>decide ((b.toNat:Int)=c)
theorem wZ(c:Int)(s:ByteArray):hasB c s=true↔ ∃i,i<s.size/\fE s i=c:=by
 unfold hasB;rw[aUx];constructor
 . rintro⟨b,hb,h⟩;obtain⟨i,hi,rfl⟩:=aPo hb;exact⟨i,by simpa using hi,by rw[dJ s i (by simpa using hi)];exact aEF h⟩
 rintro⟨i,hi,h⟩;rw[dJ s i hi]at h;exact⟨_,by rw[aUi];exact aYp ..,aDx h⟩
theorem aBi{α:Type}(p:α->Bool): ∀l:List α,l.dropWhile p=[]↔l.all p=true
 |[]=>by simp
 |a::l=>by
  cases h:p a
  . simp[aUD,h]
  simp[aUD,h,aBi p l]
theorem dw_head{α:Type}(p:α->Bool): ∀ {l:List α} {a:α} {t:List α},l.dropWhile p=a::t->p a=false
 |[],a,t,h=>by simp at h
 |b::l,a,t,h=>by
  cases hb:p b
  . simp[aUD,hb]at h;rw[<-h.1];exact hb
  simp[aUD,hb]at h;exact dw_head p h
theorem aC7(l:List UInt8)(c:UInt8):(trimS l [c]=[])↔l.all (· ==c)=true:=by
 have e:(fun x=>[c].contains x)=(fun x:UInt8=>x==c):=by funext x;exact contains_one c x
 have hr:(l.all (· ==c)=true)↔l.reverse.dropWhile (fun x:UInt8=>x==c)=[]:=by rw[aBi,List.all_reverse]
 rw[hr];unfold trimS trimLeftS trimRightS;rw[e];constructor
 . intro h;rw[aBi,List.all_reverse]at h;cases hd:l.reverse.dropWhile (fun x=>x==c)with
   |nil=>rfl
   |cons a t=>
    rw[hd]at h;have h1:=dw_head _ hd;rw[aO7,h1]at h;cases h
 intro h;rw[h];rfl
def dec:List UInt8->Nat->Nat
 |[],a=>a
 |c::r,a=>dec r (10 * a+(c.toNat - 48))
def aHS(c:UInt8):Bool:=decide (48<=c.toNat/\c.toNat<=57)
def bY(x:Int):Bool:=decide (48<=x/\x<=57)
def dW(x:Int):Bool:=decide (48<=x/\x<=57)||decide (x=88)
theorem YQ: ∀(l:List UInt8) (c:UInt8) (a:Nat),dec (l++[c]) a=10 * dec l a+(c.toNat - 48)
 |[],c,a=>rfl
 |x::l,c,a=>by simp only[List.cons_append,dec];exact YQ l c _
theorem dec_lt: ∀(l:List UInt8) (a k:Nat),l.all aHS=true->a<10 ^ k->dec l a<10 ^ (k+l.length)
 |[],a,k,_,h=>by simpa[dec]using h
 |c::l,a,k,hl,h=>by
  simp only[aO7,aEb]at hl;have hc:c.toNat<=57:=(aEF hl.1).2;have:=dec_lt l (10 * a+(c.toNat - 48)) (k+1) hl.2 (by rw[Nat.pow_succ];omega);simp only[dec,aPk];rw[show k+(l.length+1)=k+1+l.length by omega];exact this
theorem zN: ∀(l:List UInt8) (a k:Nat),l.all aHS=true->a<10 ^ k->k+l.length<=17->parseUintM 18446744073709551615 a l=.ok (dec l a)
 |[],a,k,_,h,hk=>rfl
 |c::l,a,k,hl,h,hk=>by
  simp only[aO7,aEb]at hl;have hc:=aEF hl.1;simp only[aPk]at hk;have hp:(10:Nat) ^ k<=10 ^ 16:=aPB (by omega) (by omega);have hp2:(10:Nat) ^ 16=10000000000000000:=by decide
  simp only[parseUintM,dec];rw[aEo hc,aEg (by omega),aEg (by omega),show a * 10+(c.toNat - 48)=10 * a+(c.toNat - 48) by omega];exact zN l _ (k+1) hl.2 (by rw[Nat.pow_succ];omega) (by omega)
theorem RG(l:List UInt8)(h0:l≠[])(hl:l.all aHS=true)(hk:l.length<=17):parseIntB 64 l=.ok (dec l 0:Nat):=by
 have h:=zN l 0 0 hl (by decide) (by omega);have hb:=dec_lt l 0 0 hl (by decide);rw[aHG]at hb;have hp:(10:Nat) ^ l.length<=10 ^ 17:=aPB (by omega) hk;have hp2:(10:Nat) ^ 17=100000000000000000:=by decide
 cases l with
 |nil=>exact absurd rfl h0
 |cons c r=>
  have hc:48<=c.toNat/\c.toNat<=57:=aEF (by simp only[aO7,aEb]at hl;exact hl.1);unfold parseIntB;simp only;rw[aEg (by omega)];unfold parseUintB;rw[aEg h0,show 2 ^ 64 - 1=18446744073709551615 by decide,h];simp only;have e63:2 ^ (64 - 1)=9223372036854775808:=by decide
  rw[aEg (by rw[e63];omega),aEg (by omega),aEg (by omega)]
def dD(s:ByteArray):Int:=
 if s.size=2/\48<=fE s 0/\fE s 0<=57/\48<=fE s 1/\fE s 1<=57/\21<=10 * (fE s 0 - 48)+(fE s 1 - 48)/\10 * (fE s 0 - 48)+(fE s 1 - 48)<=41 then 10 * (fE s 0 - 48)+(fE s 1 - 48)else 0
theorem nO(s:ByteArray):dD s=0\/(21<=dD s/\dD s<=41):=by
 unfold dD;split
 . next h=>exact Or.inr ⟨h.2.2.2.2.2.1,h.2.2.2.2.2.2⟩
 exact Or.inl rfl
theorem NR (a b:UInt8) (v:Int):(atoiAll [a,b]=.ok v/\21<=v/\v<=41)↔((48<=a.toNat/\a.toNat<=57/\48<=b.toNat/\b.toNat<=57/\21<=10 * (a.toNat - 48)+(b.toNat - 48)/\10 * (a.toNat - 48)+(b.toNat - 48)<=41)/\v=((10 * (a.toNat - 48)+(b.toNat - 48):Nat):Int)):=by
 unfold atoiAll;simp only;by_cases hs:a.toNat=43\/a.toNat=45
 . rw [aEo hs];constructor
   . rintro⟨h,h1,h2⟩;exfalso;unfold parseMag at h;rw[aEg (by simp)]at h;unfold parseUint10 at h;by_cases hb:48<=b.toNat/\b.toNat<=57
     . rw [aEo hb,aEg (by omega),aEg (by omega)]at h;unfold parseUint10 at h;simp only at h;split at h
       . cases h
       split at h
       . cases h
       injection h with h;split at h<;>omega
     rw[aEg hb]at h;cases h
   rintro⟨h,_⟩;omega
 rw [aEg hs];unfold parseMag;rw[aEg (by simp)];unfold parseUint10;by_cases ha:48<=a.toNat/\a.toNat<=57
 . rw [aEo ha,aEg (by omega),aEg (by omega)];unfold parseUint10;by_cases hb:48<=b.toNat/\b.toNat<=57
   . rw[aEo hb,aEg (by omega),aEg (by omega)];unfold parseUint10;simp only;rw[aEg (by omega),aEg (by omega),aEg (by omega)];constructor
     . rintro⟨h,h1,h2⟩;injection h with h;refine⟨⟨ha.1,ha.2,hb.1,hb.2,?_,?_⟩,?_⟩<;>omega
     rintro⟨⟨_,_,_,_,h1,h2⟩,rfl⟩;refine⟨?_,by omega,by omega⟩
     congr 1
     omega
   rw[aEg hb];constructor
   . rintro⟨h,_⟩;cases h
   rintro⟨⟨_,_,h1,h2,_⟩,_⟩;exact absurd ⟨h1,h2⟩ hb
 rw[aEg ha];constructor
 . rintro⟨h,_⟩;cases h
 rintro⟨⟨h1,h2,_⟩,_⟩;exact absurd ⟨h1,h2⟩ ha
theorem sO{s:ByteArray}(h:s.size=2): ∃a b:UInt8,s.data.toList=[a,b]/\fE s 0=a.toNat/\fE s 1=b.toNat:=by
 have hl:s.data.toList.length=2:=by simpa using h
 match e:s.data.toList,hl with
 |[a,b],_=>exact⟨a,b,rfl,by unfold fE;rw[e];rfl,by unfold fE;rw[e];rfl⟩
theorem ZF{s:ByteArray}(h2:s.size=2){v:Int}(h:atoiAll s.data.toList=.ok v):dD s=if 21<=v/\v<=41 then v else 0:=by
 obtain⟨a,b,e,e0,e1⟩:=sO h2;rw[e]at h;by_cases c:21<=v/\v<=41
 . obtain⟨g,hv⟩:=(NR a b v).1 ⟨h,c.1,c.2⟩;rw[aEo c];unfold dD;rw[e0,e1,aEo (by omega)];omega
 rw[aEg c];unfold dD;rw[e0,e1];split
 . rename_i g;exfalso;have:=((NR a b _).2 ⟨by omega,rfl⟩).1;rw[h]at this;injection this with this;omega
 rfl
theorem aEu{s:ByteArray}(h: ∀v,atoiAll s.data.toList≠ .ok v):dD s=0:=by
 unfold dD;split
 . rename_i g;exfalso;obtain⟨a,b,e,e0,e1⟩:=sO g.1;rw[e]at h;exact h _ ((NR a b _).2 ⟨by omega,rfl⟩).1
 rfl
theorem F5{s:ByteArray}(h: ¬s.size=2):dD s=0:=by
 unfold dD;rw[aEg (fun g=>h g.1)]
end
section
def dg(v:Int)(i:Nat):Int:=if i=0 then v / 1000 else if i=1 then v / 100 % 10 else if i=2 then v / 10 % 10 else v % 10
def eH(b:Nat->Int)(v:Int)(i:Nat):Prop:=b i=88\/b i=48+dg v i
def vZ(b:Nat->Int)(v:Int):Prop:=0<=v/\v<=9999/\eH b v 0/\eH b v 1/\eH b v 2/\eH b v 3
def gI(o:Nat->Int):Int:=1000 * (o 0 - 48)+100 * (o 1 - 48)+10 * (o 2 - 48)+(o 3 - 48)
def MOk(b:Nat->Int):Prop:= ∀i,i<4->b i=88\/(48<=b i/\b i<=57)
theorem nY(v:Int)(h0:0<=v)(h1:v<=9999): ∃d0 d1 d2 d3:Int,0<=d0/\d0<=9/\0<=d1/\d1<=9/\0<=d2/\d2<=9/\0<=d3/\d3<=9/\v=1000 * d0+100 * d1+10 * d2+d3/\dg v 0=d0/\dg v 1=d1/\dg v 2=d2/\dg v 3=d3:=
 ⟨v / 1000,v / 100 % 10,v / 10 % 10,v % 10,by omega,by omega,by omega,by omega,by omega,by omega,by omega,by omega,by omega,rfl,rfl,rfl,rfl⟩
theorem aTq{v d0 d1 d2 d3:Int}(h:v=1000 * d0+100 * d1+10 * d2+d3)(a0:0<=d0)(a1:d0<=9)(b0:0<=d1)(b1:d1<=9)(c0:0<=d2)(c1:d2<=9)(e0:0<=d3)(e1:d3<=9):
 dg v 0=d0/\dg v 1=d1/\dg v 2=d2/\dg v 3=d3:=by
 refine⟨?_,?_,?_,?_⟩<;>simp only[dg]<;>simp<;>omega
theorem pY(b:Nat->Int)(v:Int):vZ b v↔ ∃d0 d1 d2 d3:Int,0<=d0/\d0<=9/\0<=d1/\d1<=9/\0<=d2/\d2<=9/\0<=d3/\d3<=9/\v=1000 * d0+100 * d1+10 * d2+d3/\(b 0=88\/b 0=48+d0)/\(b 1=88\/b 1=48+d1)/\(b 2=88\/b 2=48+d2)/\(b 3=88\/b 3=48+d3):=by
 constructor
 . rintro⟨h0,h1,f0,f1,f2,f3⟩;obtain⟨d0,d1,d2,d3,a0,a1,a2,a3,a4,a5,a6,a7,e,e0,e1,e2,e3⟩:=nY v h0 h1;unfold eH at f0 f1 f2 f3;rw[e0]at f0;rw[e1]at f1;rw[e2]at f2;rw[e3]at f3;exact⟨d0,d1,d2,d3,a0,a1,a2,a3,a4,a5,a6,a7,e,f0,f1,f2,f3⟩
 rintro⟨d0,d1,d2,d3,a0,a1,a2,a3,a4,a5,a6,a7,e,f0,f1,f2,f3⟩;obtain⟨e0,e1,e2,e3⟩:=aTq e a0 a1 a2 a3 a4 a5 a6 a7;refine⟨by omega,by omega,?_,?_,?_,?_⟩<;>unfold eH
 . rw[e0];exact f0
 . rw[e1];exact f1
 . rw[e2];exact f2
 rw[e3];exact f3
theorem XO{b:Nat->Int}{n:Int}(h0:0<=n)(h1:n<=9999)(h: ∀i,i<4->eH b n i):vZ b n:=⟨h0,h1,h 0 (by omega),h 1 (by omega),h 2 (by omega),h 3 (by omega)⟩
theorem aJc{b o:Nat->Int}{n:Int}{k:Nat}(hb:MOk b)(h0:0<=n)(h1:n<=9999)(hk:k<4)(hf: ∀i,i<k->eH b n i)(hx:b k≠88)(hg:48+dg n k<b k)
 (ho: ∀i,i<k->o i=48+dg n i) (hr: ∀i,k<=i->i<4->o i=if b i=88 then 48 else b i):vZ b (gI o)/\n<=gI o/\ ∀f,vZ b f->n<=f->gI o<=f:=by
 obtain⟨d0,d1,d2,d3,a0,a1,a2,a3,a4,a5,a6,a7,e,e0,e1,e2,e3⟩:=nY n h0 h1;have m0:=hb 0 (by omega);have m1:=hb 1 (by omega);have m2:=hb 2 (by omega);have m3:=hb 3 (by omega);simp only[pY];obtain rfl|rfl|rfl|rfl:k=0\/k=1\/k=2\/k=3:=by omega
 . have r0:=hr 0 (by omega) (by omega);have r1:=hr 1 (by omega) (by omega);have r2:=hr 2 (by omega) (by omega);have r3:=hr 3 (by omega) (by omega);rw[e0]at hg;clear hf ho hr hb e0 e1 e2 e3;unfold gI;refine⟨⟨o 0 - 48,o 1 - 48,o 2 - 48,o 3 - 48,?_⟩,?_,?_⟩
   . split at r0<;>split at r1<;>split at r2<;>split at r3<;>omega
   . split at r0<;>split at r1<;>split at r2<;>split at r3<;>omega
   rintro f ⟨f0,f1,f2,f3,g⟩ hn;split at r0<;>split at r1<;>split at r2<;>split at r3<;>omega
 . have p0:=hf 0 (by omega);unfold eH at p0;rw[e0]at p0;have q0:=ho 0 (by omega);rw[e0]at q0;have r1:=hr 1 (by omega) (by omega);have r2:=hr 2 (by omega) (by omega);have r3:=hr 3 (by omega) (by omega);rw[e1]at hg;clear hf ho hr hb e0 e1 e2 e3;unfold gI;refine⟨⟨o 0 - 48,o 1 - 48,o 2 - 48,o 3 - 48,?_⟩,?_,?_⟩
   . split at r1<;>split at r2<;>split at r3<;>omega
   . split at r1<;>split at r2<;>split at r3<;>omega
   rintro f ⟨f0,f1,f2,f3,g⟩ hn;split at r1<;>split at r2<;>split at r3<;>omega
 . have p0:=hf 0 (by omega);unfold eH at p0;rw[e0]at p0;have q0:=ho 0 (by omega);rw[e0]at q0;have p1:=hf 1 (by omega);unfold eH at p1;rw[e1]at p1;have q1:=ho 1 (by omega);rw[e1]at q1;have r2:=hr 2 (by omega) (by omega);have r3:=hr 3 (by omega) (by omega);rw[e2]at hg;clear hf ho hr hb e0 e1 e2 e3;unfold gI;refine⟨⟨o 0 - 48,o 1 - 48,o 2 - 48,o 3 - 48,?_⟩,?_,?_⟩
   . split at r2<;>split at r3<;>omega
   . split at r2<;>split at r3<;>omega
   rintro f ⟨f0,f1,f2,f3,g⟩ hn;split at r2<;>split at r3<;>omega
 have p0:=hf 0 (by omega);unfold eH at p0;rw[e0]at p0;have q0:=ho 0 (by omega);rw[e0]at q0;have p1:=hf 1 (by omega);unfold eH at p1;rw[e1]at p1;have q1:=ho 1 (by omega);rw[e1]at q1;have p2:=hf 2 (by omega);unfold eH at p2;rw[e2]at p2;have q2:=ho 2 (by omega);rw[e2]at q2;have r3:=hr 3 (by omega) (by omega);rw[e3]at hg;clear hf ho hr hb e0 e1 e2 e3;unfold gI;refine⟨⟨o 0 - 48,o 1 - 48,o 2 - 48,o 3 - 48,?_⟩,?_,?_⟩
 . split at r3<;>omega
 . split at r3<;>omega
 rintro f ⟨f0,f1,f2,f3,g⟩ hn;split at r3<;>omega
theorem aJd{b o:Nat->Int}{n:Int}{k j:Nat}(hb:MOk b)(h0:0<=n)(h1:n<=9999)(hk:k<4)(hf: ∀i,i<k->eH b n i)(hx:b k≠88)(hg:b k<48+dg n k)
 (hj:j<k) (hbx:b j=88) (hd:dg n j≠9) (hn: ∀i,j<i->i<k-> ¬(b i=88/\dg n i≠9))
 (ho: ∀i,i<j->o i=48+dg n i) (hoj:o j=48+dg n j+1) (hr: ∀i,j<i->i<4->o i=if b i=88 then 48 else b i):vZ b (gI o)/\n<=gI o/\ ∀f,vZ b f->n<=f->gI o<=f:=by
 obtain⟨d0,d1,d2,d3,a0,a1,a2,a3,a4,a5,a6,a7,e,e0,e1,e2,e3⟩:=nY n h0 h1;have m0:=hb 0 (by omega);have m1:=hb 1 (by omega);have m2:=hb 2 (by omega);have m3:=hb 3 (by omega);simp only[pY];obtain⟨rfl,rfl⟩|⟨rfl,rfl⟩|⟨rfl,rfl⟩|⟨rfl,rfl⟩|⟨rfl,rfl⟩|⟨rfl,rfl⟩:(j=0/\k=1)\/(j=0/\k=2)\/(j=0/\k=3)\/(j=1/\k=2)\/(j=1/\k=3)\/(j=2/\k=3):=by omega
 . have p0:=hf 0 (by omega);unfold eH at p0;rw[e0]at p0;rw[e0]at hoj hd;have r1:=hr 1 (by omega) (by omega);have r2:=hr 2 (by omega) (by omega);have r3:=hr 3 (by omega) (by omega);rw[e1]at hg;clear hf ho hr hb hn e0 e1 e2 e3;unfold gI;refine⟨⟨o 0 - 48,o 1 - 48,o 2 - 48,o 3 - 48,?_⟩,?_,?_⟩
   . split at r1<;>split at r2<;>split at r3<;>omega
   . split at r1<;>split at r2<;>split at r3<;>omega
   rintro f ⟨f0,f1,f2,f3,g⟩ hn;split at r1<;>split at r2<;>split at r3<;>omega
 . have p0:=hf 0 (by omega);unfold eH at p0;rw[e0]at p0;have p1:=hf 1 (by omega);unfold eH at p1;rw[e1]at p1;rw[e0]at hoj hd;have s1:=hn 1 (by omega) (by omega);rw[e1]at s1;have r1:=hr 1 (by omega) (by omega);have r2:=hr 2 (by omega) (by omega);have r3:=hr 3 (by omega) (by omega);rw[e2]at hg;clear hf ho hr hb hn e0 e1 e2 e3;unfold gI;refine⟨⟨o 0 - 48,o 1 - 48,o 2 - 48,o 3 - 48,?_⟩,?_,?_⟩
   . split at r1<;>split at r2<;>split at r3<;>omega
   . split at r1<;>split at r2<;>split at r3<;>omega
   rintro f ⟨f0,f1,f2,f3,g⟩ hn;split at r1<;>split at r2<;>split at r3<;>omega
 . have p0:=hf 0 (by omega);unfold eH at p0;rw[e0]at p0;have p1:=hf 1 (by omega);unfold eH at p1;rw[e1]at p1;have p2:=hf 2 (by omega);unfold eH at p2;rw[e2]at p2;rw[e0]at hoj hd;have s1:=hn 1 (by omega) (by omega);rw[e1]at s1;have s2:=hn 2 (by omega) (by omega);rw[e2]at s2;have r1:=hr 1 (by omega) (by omega);have r2:=hr 2 (by omega) (by omega);have r3:=hr 3 (by omega) (by omega);rw[e3]at hg;clear hf ho hr hb hn e0 e1 e2 e3;unfold gI;refine⟨⟨o 0 - 48,o 1 - 48,o 2 - 48,o 3 - 48,?_⟩,?_,?_⟩
   . split at r1<;>split at r2<;>split at r3<;>omega
   . split at r1<;>split at r2<;>split at r3<;>omega
   rintro f ⟨f0,f1,f2,f3,g⟩ hn;split at r1<;>split at r2<;>split at r3<;>omega
 . have p0:=hf 0 (by omega);unfold eH at p0;rw[e0]at p0;have p1:=hf 1 (by omega);unfold eH at p1;rw[e1]at p1;have q0:=ho 0 (by omega);rw[e0]at q0;rw[e1]at hoj hd;have r2:=hr 2 (by omega) (by omega);have r3:=hr 3 (by omega) (by omega);rw[e2]at hg;clear hf ho hr hb hn e0 e1 e2 e3;unfold gI;refine⟨⟨o 0 - 48,o 1 - 48,o 2 - 48,o 3 - 48,?_⟩,?_,?_⟩
   . split at r2<;>split at r3<;>omega
   . split at r2<;>split at r3<;>omega
   rintro f ⟨f0,f1,f2,f3,g⟩ hn;split at r2<;>split at r3<;>omega
 . have p0:=hf 0 (by omega);unfold eH at p0;rw[e0]at p0;have p1:=hf 1 (by omega);unfold eH at p1;rw[e1]at p1;have p2:=hf 2 (by omega);unfold eH at p2;rw[e2]at p2;have q0:=ho 0 (by omega);rw[e0]at q0;rw[e1]at hoj hd;have s2:=hn 2 (by omega) (by omega);rw[e2]at s2;have r2:=hr 2 (by omega) (by omega);have r3:=hr 3 (by omega) (by omega);rw[e3]at hg;clear hf ho hr hb hn e0 e1 e2 e3;unfold gI;refine⟨⟨o 0 - 48,o 1 - 48,o 2 - 48,o 3 - 48,?_⟩,?_,?_⟩
   . split at r2<;>split at r3<;>omega
   . split at r2<;>split at r3<;>omega
   rintro f ⟨f0,f1,f2,f3,g⟩ hn;split at r2<;>split at r3<;>omega
 have p0:=hf 0 (by omega);unfold eH at p0;rw[e0]at p0;have p1:=hf 1 (by omega);unfold eH at p1;rw[e1]at p1;have p2:=hf 2 (by omega);unfold eH at p2;rw[e2]at p2;have q0:=ho 0 (by omega);rw[e0]at q0;have q1:=ho 1 (by omega);rw[e1]at q1;rw[e2]at hoj hd;have r3:=hr 3 (by omega) (by omega);rw[e3]at hg;clear hf ho hr hb hn e0 e1 e2 e3;unfold gI;refine⟨⟨o 0 - 48,o 1 - 48,o 2 - 48,o 3 - 48,?_⟩,?_,?_⟩
 . split at r3<;>omega
 . split at r3<;>omega
 rintro f ⟨f0,f1,f2,f3,g⟩ hn;split at r3<;>omega
theorem aJb{b:Nat->Int}{n:Int}{k:Nat}(h0:0<=n)(h1:n<=9999)(hk:k<4)(hf: ∀i,i<k->eH b n i)(hx:b k≠88)(hg:b k<48+dg n k)
 (hn: ∀i,i<k-> ¬(b i=88/\dg n i≠9)): ∀f,vZ b f->f<n:=by
 obtain⟨d0,d1,d2,d3,a0,a1,a2,a3,a4,a5,a6,a7,e,e0,e1,e2,e3⟩:=nY n h0 h1;simp only[pY];obtain rfl|rfl|rfl|rfl:k=0\/k=1\/k=2\/k=3:=by omega
 . rw[e0]at hg;clear hf hn e0 e1 e2 e3;rintro f ⟨f0,f1,f2,f3,g⟩;omega
 . have p0:=hf 0 (by omega);unfold eH at p0;rw[e0]at p0;have s0:=hn 0 (by omega);rw[e0]at s0;rw[e1]at hg;clear hf hn e0 e1 e2 e3;rintro f ⟨f0,f1,f2,f3,g⟩;omega
 . have p0:=hf 0 (by omega);unfold eH at p0;rw[e0]at p0;have s0:=hn 0 (by omega);rw[e0]at s0;have p1:=hf 1 (by omega);unfold eH at p1;rw[e1]at p1;have s1:=hn 1 (by omega);rw[e1]at s1;rw[e2]at hg;clear hf hn e0 e1 e2 e3;rintro f ⟨f0,f1,f2,f3,g⟩;omega
 have p0:=hf 0 (by omega);unfold eH at p0;rw[e0]at p0;have s0:=hn 0 (by omega);rw[e0]at s0;have p1:=hf 1 (by omega);unfold eH at p1;rw[e1]at p1;have s1:=hn 1 (by omega);rw[e1]at s1;have p2:=hf 2 (by omega);unfold eH at p2;rw[e2]at p2;have s2:=hn 2 (by omega);rw[e2]at s2;rw[e3]at hg;clear hf hn e0 e1 e2 e3;rintro f ⟨f0,f1,f2,f3,g⟩;omega
theorem aK3{b o:Nat->Int}{n:Int}{k:Nat}(hb:MOk b)(h0:0<=n)(h1:n<=9999)(hk:k<4)(hf: ∀i,i<k->eH b n i)(hx:b k≠88)(hg:b k<48+dg n k)
 (ho: ∀i,i<k->o i=48+dg n i) (hr: ∀i,k<=i->i<4->o i=if b i=88 then 57 else b i):vZ b (gI o)/\gI o<=n/\ ∀f,vZ b f->f<=n->f<=gI o:=by
 obtain⟨d0,d1,d2,d3,a0,a1,a2,a3,a4,a5,a6,a7,e,e0,e1,e2,e3⟩:=nY n h0 h1;have m0:=hb 0 (by omega);have m1:=hb 1 (by omega);have m2:=hb 2 (by omega);have m3:=hb 3 (by omega);simp only[pY];obtain rfl|rfl|rfl|rfl:k=0\/k=1\/k=2\/k=3:=by omega
 . have r0:=hr 0 (by omega) (by omega);have r1:=hr 1 (by omega) (by omega);have r2:=hr 2 (by omega) (by omega);have r3:=hr 3 (by omega) (by omega);rw[e0]at hg;clear hf ho hr hb e0 e1 e2 e3;unfold gI;refine⟨⟨o 0 - 48,o 1 - 48,o 2 - 48,o 3 - 48,?_⟩,?_,?_⟩
   . split at r0<;>split at r1<;>split at r2<;>split at r3<;>omega
   . split at r0<;>split at r1<;>split at r2<;>split at r3<;>omega
   rintro f ⟨f0,f1,f2,f3,g⟩ hn;split at r0<;>split at r1<;>split at r2<;>split at r3<;>omega
 . have p0:=hf 0 (by omega);unfold eH at p0;rw[e0]at p0;have q0:=ho 0 (by omega);rw[e0]at q0;have r1:=hr 1 (by omega) (by omega);have r2:=hr 2 (by omega) (by omega);have r3:=hr 3 (by omega) (by omega);rw[e1]at hg;clear hf ho hr hb e0 e1 e2 e3;unfold gI;refine⟨⟨o 0 - 48,o 1 - 48,o 2 - 48,o 3 - 48,?_⟩,?_,?_⟩
   . split at r1<;>split at r2<;>split at r3<;>omega
   . split at r1<;>split at r2<;>split at r3<;>omega
   rintro f ⟨f0,f1,f2,f3,g⟩ hn;split at r1<;>split at r2<;>split at r3<;>omega
 . have p0:=hf 0 (by omega);unfold eH at p0;rw[e0]at p0;have q0:=ho 0 (by omega);rw[e0]at q0;have p1:=hf 1 (by omega);unfold eH at p1;rw[e1]at p1;have q1:=ho 1 (by omega);rw[e1]at q1;have r2:=hr 2 (by omega) (by omega);have r3:=hr 3 (by omega) (by omega);rw[e2]at hg;clear hf ho hr hb e0 e1 e2 e3;unfold gI;refine⟨⟨o 0 - 48,o 1 - 48,o 2 - 48,o 3 - 48,?_⟩,?_,?_⟩
   . split at r2<;>split at r3<;>omega
   . split at r2<;>split at r3<;>omega
   rintro f ⟨f0,f1,f2,f3,g⟩ hn;split at r2<;>split at r3<;>omega
 have p0:=hf 0 (by omega);unfold eH at p0;rw[e0]at p0;have q0:=ho 0 (by omega);rw[e0]at q0;have p1:=hf 1 (by omega);unfold eH at p1;rw[e1]at p1;have q1:=ho 1 (by omega);rw[e1]at q1;have p2:=hf 2 (by omega);unfold eH at p2;rw[e2]at p2;have q2:=ho 2 (by omega);rw[e2]at q2;have r3:=hr 3 (by omega) (by omega);rw[e3]at hg;clear hf ho hr hb e0 e1 e2 e3;unfold gI;refine⟨⟨o 0 - 48,o 1 - 48,o 2 - 48,o 3 - 48,?_⟩,?_,?_⟩
 . split at r3<;>omega
 . split at r3<;>omega
 rintro f ⟨f0,f1,f2,f3,g⟩ hn;split at r3<;>omega
theorem aK4{b o:Nat->Int}{n:Int}{k j:Nat}(hb:MOk b)(h0:0<=n)(h1:n<=9999)(hk:k<4)(hf: ∀i,i<k->eH b n i)(hx:b k≠88)(hg:48+dg n k<b k)
 (hj:j<k) (hbx:b j=88) (hd:dg n j≠0) (hn: ∀i,j<i->i<k-> ¬(b i=88/\dg n i≠0))
 (ho: ∀i,i<j->o i=48+dg n i) (hoj:o j=48+dg n j - 1) (hr: ∀i,j<i->i<4->o i=if b i=88 then 57 else b i):vZ b (gI o)/\gI o<=n/\ ∀f,vZ b f->f<=n->f<=gI o:=by
 obtain⟨d0,d1,d2,d3,a0,a1,a2,a3,a4,a5,a6,a7,e,e0,e1,e2,e3⟩:=nY n h0 h1;have m0:=hb 0 (by omega);have m1:=hb 1 (by omega);have m2:=hb 2 (by omega);have m3:=hb 3 (by omega);simp only[pY];obtain⟨rfl,rfl⟩|⟨rfl,rfl⟩|⟨rfl,rfl⟩|⟨rfl,rfl⟩|⟨rfl,rfl⟩|⟨rfl,rfl⟩:(j=0/\k=1)\/(j=0/\k=2)\/(j=0/\k=3)\/(j=1/\k=2)\/(j=1/\k=3)\/(j=2/\k=3):=by omega
 . have p0:=hf 0 (by omega);unfold eH at p0;rw[e0]at p0;rw[e0]at hoj hd;have r1:=hr 1 (by omega) (by omega);have r2:=hr 2 (by omega) (by omega);have r3:=hr 3 (by omega) (by omega);rw[e1]at hg;clear hf ho hr hb hn e0 e1 e2 e3;unfold gI;refine⟨⟨o 0 - 48,o 1 - 48,o 2 - 48,o 3 - 48,?_⟩,?_,?_⟩
   . split at r1<;>split at r2<;>split at r3<;>omega
   . split at r1<;>split at r2<;>split at r3<;>omega
   rintro f ⟨f0,f1,f2,f3,g⟩ hn;split at r1<;>split at r2<;>split at r3<;>omega
 . have p0:=hf 0 (by omega);unfold eH at p0;rw[e0]at p0;have p1:=hf 1 (by omega);unfold eH at p1;rw[e1]at p1;rw[e0]at hoj hd;have s1:=hn 1 (by omega) (by omega);rw[e1]at s1;have r1:=hr 1 (by omega) (by omega);have r2:=hr 2 (by omega) (by omega);have r3:=hr 3 (by omega) (by omega);rw[e2]at hg;clear hf ho hr hb hn e0 e1 e2 e3;unfold gI;refine⟨⟨o 0 - 48,o 1 - 48,o 2 - 48,o 3 - 48,?_⟩,?_,?_⟩
   . split at r1<;>split at r2<;>split at r3<;>omega
   . split at r1<;>split at r2<;>split at r3<;>omega
   rintro f ⟨f0,f1,f2,f3,g⟩ hn;split at r1<;>split at r2<;>split at r3<;>omega
 . have p0:=hf 0 (by omega);unfold eH at p0;rw[e0]at p0;have p1:=hf 1 (by omega);unfold eH at p1;rw[e1]at p1;have p2:=hf 2 (by omega);unfold eH at p2;rw[e2]at p2;rw[e0]at hoj hd;have s1:=hn 1 (by omega) (by omega);rw[e1]at s1;have s2:=hn 2 (by omega) (by omega);rw[e2]at s2;have r1:=hr 1 (by omega) (by omega);have r2:=hr 2 (by omega) (by omega);have r3:=hr 3 (by omega) (by omega);rw[e3]at hg;clear hf ho hr hb hn e0 e1 e2 e3;unfold gI;refine⟨⟨o 0 - 48,o 1 - 48,o 2 - 48,o 3 - 48,?_⟩,?_,?_⟩
   . split at r1<;>split at r2<;>split at r3<;>omega
   . split at r1<;>split at r2<;>split at r3<;>omega
   rintro f ⟨f0,f1,f2,f3,g⟩ hn;split at r1<;>split at r2<;>split at r3<;>omega
 . have p0:=hf 0 (by omega);unfold eH at p0;rw[e0]at p0;have p1:=hf 1 (by omega);unfold eH at p1;rw[e1]at p1;have q0:=ho 0 (by omega);rw[e0]at q0;rw[e1]at hoj hd;have r2:=hr 2 (by omega) (by omega);have r3:=hr 3 (by omega) (by omega);rw[e2]at hg;clear hf ho hr hb hn e0 e1 e2 e3;unfold gI;refine⟨⟨o 0 - 48,o 1 - 48,o 2 - 48,o 3 - 48,?_⟩,?_,?_⟩
   . split at r2<;>split at r3<;>omega
   . split at r2<;>split at r3<;>omega
   rintro f ⟨f0,f1,f2,f3,g⟩ hn;split at r2<;>split at r3<;>omega
 . have p0:=hf 0 (by omega);unfold eH at p0;rw[e0]at p0;have p1:=hf 1 (by omega);unfold eH at p1;rw[e1]at p1;have p2:=hf 2 (by omega);unfold eH at p2;rw[e2]at p2;have q0:=ho 0 (by omega);rw[e0]at q0;rw[e1]at hoj hd;have s2:=hn 2 (by omega) (by omega);rw[e2]at s2;have r2:=hr 2 (by omega) (by omega);have r3:=hr 3 (by omega) (by omega);rw[e3]at hg;clear hf ho hr hb hn e0 e1 e2 e3;unfold gI;refine⟨⟨o 0 - 48,o 1 - 48,o 2 - 48,o 3 - 48,?_⟩,?_,?_⟩
   . split at r2<;>split at r3<;>omega
   . split at r2<;>split at r3<;>omega
   rintro f ⟨f0,f1,f2,f3,g⟩ hn;split at r2<;>split at r3<;>omega
 have p0:=hf 0 (by omega);unfold eH at p0;rw[e0]at p0;have p1:=hf 1 (by omega);unfold eH at p1;rw[e1]at p1;have p2:=hf 2 (by omega);unfold eH at p2;rw[e2]at p2;have q0:=ho 0 (by omega);rw[e0]at q0;have q1:=ho 1 (by omega);rw[e1]at q1;rw[e2]at hoj hd;have r3:=hr 3 (by omega) (by omega);rw[e3]at hg;clear hf ho hr hb hn e0 e1 e2 e3;unfold gI;refine⟨⟨o 0 - 48,o 1 - 48,o 2 - 48,o 3 - 48,?_⟩,?_,?_⟩
 . split at r3<;>omega
 . split at r3<;>omega
 rintro f ⟨f0,f1,f2,f3,g⟩ hn;split at r3<;>omega
theorem aK2{b:Nat->Int}{n:Int}{k:Nat}(h0:0<=n)(h1:n<=9999)(hk:k<4)(hf: ∀i,i<k->eH b n i)(hx:b k≠88)(hg:48+dg n k<b k)
 (hn: ∀i,i<k-> ¬(b i=88/\dg n i≠0)): ∀f,vZ b f->n<f:=by
 obtain⟨d0,d1,d2,d3,a0,a1,a2,a3,a4,a5,a6,a7,e,e0,e1,e2,e3⟩:=nY n h0 h1;simp only[pY];obtain rfl|rfl|rfl|rfl:k=0\/k=1\/k=2\/k=3:=by omega
 . rw[e0]at hg;clear hf hn e0 e1 e2 e3;rintro f ⟨f0,f1,f2,f3,g⟩;omega
 . have p0:=hf 0 (by omega);unfold eH at p0;rw[e0]at p0;have s0:=hn 0 (by omega);rw[e0]at s0;rw[e1]at hg;clear hf hn e0 e1 e2 e3;rintro f ⟨f0,f1,f2,f3,g⟩;omega
 . have p0:=hf 0 (by omega);unfold eH at p0;rw[e0]at p0;have s0:=hn 0 (by omega);rw[e0]at s0;have p1:=hf 1 (by omega);unfold eH at p1;rw[e1]at p1;have s1:=hn 1 (by omega);rw[e1]at s1;rw[e2]at hg;clear hf hn e0 e1 e2 e3;rintro f ⟨f0,f1,f2,f3,g⟩;omega
 have p0:=hf 0 (by omega);unfold eH at p0;rw[e0]at p0;have s0:=hn 0 (by omega);rw[e0]at s0;have p1:=hf 1 (by omega);unfold eH at p1;rw[e1]at p1;have s1:=hn 1 (by omega);rw[e1]at s1;have p2:=hf 2 (by omega);unfold eH at p2;rw[e2]at p2;have s2:=hn 2 (by omega);rw[e2]at s2;rw[e3]at hg;clear hf hn e0 e1 e2 e3;rintro f ⟨f0,f1,f2,f3,g⟩;omega
def p10(k:Nat):Int:=10 ^ k
theorem aJO(k:Nat)(h:k<=18):(1:Int)<=10 ^ k/\(10:Int) ^ k<=1000000000000000000:=by
 have h1:(10:Nat) ^ k<=10 ^ 18:=aPB (by omega) h;have h2:0<(10:Nat) ^ k:=aXy (by simp);have h3:(10:Nat) ^ 18=1000000000000000000:=by decide
 have e:((10:Int) ^ k)=((10 ^ k:Nat):Int):=by simp
 rw[e];omega
theorem WM(k:Nat):p10 (k+1)=p10 k * 10:=by unfold p10;rw[Int.pow_succ]
theorem aFP(k:Nat)(h:k<=18):1<=p10 k/\p10 k<=1000000000000000000:=aJO k h
theorem RH(k:Nat):1<=p10 k:=by
 unfold p10;have e:((10:Int) ^ k)=((10 ^ k:Nat):Int):=by simp
 have h2:0<(10:Nat) ^ k:=aXy (by simp);rw[e];omega
def bJ(s:ByteArray):Int:=(dec s.data.toList 0:Nat)
theorem DY(s:ByteArray):0<=bJ s:=by unfold bJ;omega
def jJ(s:ByteArray)(ex:Int):Int:=bJ s * p10 ex.toNat
def U0(x:Int):Bool:=decide (x=48)
def iO(s:ByteArray)(ex:Int):Bool:=
 decide (1<=s.size)&&(decide (s.size<=17)&&(aYP bY s&&(!decide (fE s 0=48)&&(decide (0<=ex)&&(decide (ex<=16)&&(!(decide (ex=0)&&decide (s.size<5))&&decide (jJ s ex<=10000000000000000)))))))
def iT(neg:Bool)(s:ByteArray)(ex sig:Int):Bool:=
 decide (s.size=4)&&(aYP dW s&&(decide (ex=0)&&(!(neg&&aYP U0 s)&& !(!decide (sig=0)&&hasB 88 s))))
def zH(neg long:Bool)(s:ByteArray)(ex sig:Int):Bool:=(if long then iO s ex else iT neg s ex sig)&&(decide (0<=sig)&&decide (sig<=s.size+ex))
theorem kN{neg:Bool}{s:ByteArray}{ex sig:Int}(h:zH neg true s ex sig=true):1<=s.size/\s.size<=17/\aYP bY s=true/\fE s 0≠48/\0<=ex/\ex<=16/\jJ s ex<=10000000000000000/\0<=sig/\sig<=s.size+ex:=by
 unfold zH iO at h;simp at h;obtain⟨⟨h1,h2,h3,h4,h5,h6,h7,h8⟩,h9,h10⟩:=h;exact⟨h1,h2,h3,h4,h5,h6,h8,h9,h10⟩
theorem kH{neg:Bool}{s:ByteArray}{ex sig:Int}(h:zH neg false s ex sig=true):s.size=4/\aYP dW s=true/\ex=0/\(neg=true->aYP U0 s=false)/\(sig≠0->hasB 88 s=false)/\0<=sig/\sig<=4:=by
 unfold zH iT at h;simp at h;obtain⟨⟨h1,h2,h3,h4,h5⟩,h9,h10⟩:=h;exact⟨h1,h2,h3,fun hn=>by cases h4 with
  |inl h=>rw[hn]at h;cases h
  |inr h=>exact h,fun hs=>by cases h5 with
  |inl h=>exact absurd h hs
  |inr h=>exact h,h9,by omega⟩
def kF(s:ByteArray)(n:Int):Bool:=decide (s.size=2)&&((decide (fE s 0=88)||decide (fE s 0=48+n / 10))&&(decide (fE s 1=88)||decide (fE s 1=48+n % 10)))
def fJ(s:ByteArray)(g:Nat):Bool:=(List.range g).any fun i=>kF s ((i:Int)+1)
theorem uK(s:ByteArray)(g:Nat):fJ s (g+1)=(fJ s g||kF s ((g:Int)+1)):=by
 unfold fJ;rw[aYb,List.any_append];simp
theorem J4{s:ByteArray}{g h:Nat}(hle:g<=h)(hs:fJ s g=true):fJ s h=true:=by
 unfold fJ at hs ⊢;rw[aUx]at hs ⊢;obtain⟨i,hi,ha⟩:=hs;exact⟨i,by rw[aMv]at hi ⊢;omega,ha⟩
theorem xY(s:ByteArray)(g:Nat):fJ s g=true↔ ∃n:Int,1<=n/\n<=g/\kF s n=true:=by
 unfold fJ;rw[aUx];constructor
 . rintro⟨i,hi,ha⟩;rw[aMv]at hi;exact⟨(i:Int)+1,by omega,by omega,ha⟩
 rintro⟨n,h1,h2,ha⟩;refine⟨(n - 1).toNat,by rw[aMv];omega,?_⟩;rw[show (((n - 1).toNat:Nat):Int)+1=n by omega];exact ha
def comps(mo da:ByteArray):Int:=1+(if mo.size=0 then 0 else 1)+(if da.size=0 then 0 else 1)
def jR(a b c n:Int):Int:=if a<=3/\b<=3/\c<=3/\(n<3->c=0)/\(n<2->b=0)then 0 else 9
structure Dt where
 neg:Bool
 long:Bool
 dg:ByteArray
 ex:Int
 sig:Int
 mo:ByteArray
 da:ByteArray
 m0:Int
 m1:Int
 m2:Int
def Dt.U7(d:Dt):Bool:=zH d.neg d.long d.dg d.ex d.sig
def Dt.mag(d:Dt):Int:=jJ d.dg d.ex
def Dt.mask(d:Dt):Bool:=hasB 88 d.dg
def Dt.aH(d:Dt):Int:=dD d.mo
def Dt.far(d:Dt):Bool:=(decide (d.aH=24)||(decide (d.aH=28)||decide (d.aH=30)))&&(!d.mask&&(decide (d.mag=10000000000000000)&& !d.neg))
def Dt.mF(d:Dt):Bool:=d.U7&&(!(decide (0<d.sig)&& !decide (d.mo.size=0))&& !d.far)
def Dt.form(d:Dt):Int:=
 if d.mF=false then 6
 else if(!decide (d.mo.size=0)&&(decide (d.aH=0)&& !fJ d.mo 12))=true then 7
 else if(!decide (d.da.size=0)&&(decide (d.mo.size=0)||(!decide (d.aH=0)|| !fJ d.da 31)))=true then 8
 else jR d.m0 d.m1 d.m2 (comps d.mo d.da)
def Dt.In(d:Dt)(y:Int):Prop:=if d.mask=true then(if d.neg=true then vZ (fE d.dg) (-y)/\y≠0 else vZ (fE d.dg) y)else y=(if d.neg=true then -d.mag else d.mag)
def cvv(y m k:Int):Value:=.agg #[.int .i64 y,.int .i64 m,.int .i64 k]
def dP(d:Dt):Value:=.agg #[.bool d.neg,.bool d.long,.string d.dg,.int .i64 d.ex,.int .i64 d.sig,.string d.mo,.string d.da,.int .u8 d.m0,.int .u8 d.m1,.int .u8 d.m2]
def rD(a b:Int)(l:List UInt8):Int:=(l.filter fun c=>decide (a<=(c.toNat:Int))&&decide ((c.toNat:Int)<=b)).length
theorem JH(a b:Int)(l:List UInt8):0<=rD a b l/\rD a b l<=l.length:=by
 unfold rD;exact⟨by omega,by have:=List.length_filter_le (fun c:UInt8=>decide (a<=(c.toNat:Int))&&decide ((c.toNat:Int)<=b)) l;omega⟩
theorem take_snoc(s:ByteArray)(k:Nat)(h:k<s.size):s.data.toList.take (k+1)=s.data.toList.take k++[s[k]]:=by
 rw[aXP (by simpa using h)];rfl
theorem aEr(a b:Int)(l:List UInt8)(c:UInt8):rD a b (l++[c])=rD a b l+if a<=(c.toNat:Int)/\(c.toNat:Int)<=b then 1 else 0:=by
 unfold rD;rw[List.filter_append];by_cases h:a<=(c.toNat:Int)<;>by_cases h2:(c.toNat:Int)<=b<;>simp[List.filter_cons,h,h2]
theorem yS(a b:Int)(l:List UInt8)(c:UInt8):rD a b (c::l)=rD a b l+if a<=(c.toNat:Int)/\(c.toNat:Int)<=b then 1 else 0:=by
 unfold rD;by_cases h:a<=(c.toNat:Int)<;>by_cases h2:(c.toNat:Int)<=b<;>simp[List.filter_cons,h,h2]
def nZ(a b:Int)(s:ByteArray):Int:=rD a b s.data.toList
theorem D5(a b:Int)(s:ByteArray):0<=nZ a b s/\nZ a b s<=s.size:=by
 have:=JH a b s.data.toList;unfold nZ;simpa using this
theorem YX: ∀l:List UInt8,(rD 48 57 l+rD 88 88 l=l.length↔(l.all fun b=>dW (b.toNat:Int))=true)/\rD 48 57 l+rD 88 88 l<=l.length
 |[]=>by simp[rD]
 |c::l=>by
  obtain⟨ih,ih2⟩:=YX l;rw[yS,yS,aO7,aEb,<-ih,aPk];unfold dW;by_cases h:(48:Int)<=(c.toNat:Int)/\(c.toNat:Int)<=57
  . rw[aEo h,aEg (by omega)];simp[h];omega
  rw[aEg h];by_cases h2:(c.toNat:Int)=88
  . rw[aEo (by omega)];simp[h2];omega
  rw[aEg (by omega)];simp[h,h2];omega
theorem YN(s:ByteArray):(nZ 48 57 s+nZ 88 88 s=s.size)↔aYP dW s=true:=by
 have:=(YX s.data.toList).1;unfold nZ aYP;simpa using this
theorem aMo: ∀l:List UInt8,(0<rD 88 88 l)↔(l.any fun b=>decide ((b.toNat:Int)=88))=true
 |[]=>by simp[rD]
 |c::l=>by
  have ih:=aMo l;have:=(JH 88 88 l).1;rw[yS,aXL,aMi,<-ih,aNF];by_cases h:(c.toNat:Int)=88
  . rw[aEo (by omega)];omega
  rw[aEg (by omega)];omega
theorem aEP(s:ByteArray):(0<nZ 88 88 s)↔hasB 88 s=true:=aMo _
theorem aCI(a:Int): ∀l:List UInt8,(rD a a l=l.length)↔(l.all fun b=>decide ((b.toNat:Int)=a))=true
 |[]=>by simp[rD]
 |c::l=>by
  have ih:=aCI a l;have:=(JH a a l).2;rw[yS,aO7,aEb,<-ih,aNF,aPk];by_cases h:(c.toNat:Int)=a
  . rw[aEo (by omega)];omega
  rw[aEg (by omega)];omega
theorem aPx(s:ByteArray)(h:s.size=4):(nZ 48 48 s=4)↔aYP U0 s=true:=by
 have:=aCI 48 s.data.toList;unfold nZ aYP U0;have e:(s.data.toList.length:Int)=4:=by simp;omega
 rw[e]at this;exact this
theorem aCJ: ∀l:List UInt8,(l.all fun b=>dW (b.toNat:Int))=true->((l.any fun b=>decide ((b.toNat:Int)=88))=false↔(l.all fun b=>bY (b.toNat:Int))=true)
 |[],_=>by simp
 |c::l,h=>by
  rw[aO7,aEb]at h;have ih:=aCJ l h.2;rw[aXL,aO7,aM8,aEb,ih];have h1:=h.1;unfold dW at h1;unfold bY;by_cases h2:(c.toNat:Int)=88
  . simp[h2]
  simp[h2]at h1;simp[h2,h1]
theorem lD{s:ByteArray}(h:aYP dW s=true):hasB 88 s=false↔aYP bY s=true:=aCJ _ h
theorem tZ{s:ByteArray}(h:aYP bY s=true):aYP dW s=true:=by
 rw[kU]at h ⊢;intro i hi;have:=h i hi;unfold bY at this;unfold dW;rw[this];rfl
def vV(s:ByteArray)(k:Nat):Int:=if k<=s.size then(dec (s.data.toList.take k) 0:Nat)else bJ s * p10 (k - s.size)
theorem PW(s:ByteArray):vV s 0=0:=by unfold vV;rw[aEo (aLp _)];rfl
theorem LV(s:ByteArray)(e:Nat):vV s (s.size+e)=jJ s e:=by
 unfold vV jJ;by_cases h:s.size+e<=s.size
 . obtain rfl:e=0:=by omega
   rw[aEo h,aSY (by simp)];unfold bJ p10;simp
 rw[aEg h,show s.size+e - s.size=e by omega,aOd]
theorem aBk{s:ByteArray}(h:aYP bY s=true)(k:Nat)(hk:k<s.size):48<=((s[k]'hk).toNat:Int)/\((s[k]'hk).toNat:Int)<=57:=by
 have:=(kU _ _).1 h k hk;rw[dJ s k hk]at this;exact aEF this
theorem XR{s:ByteArray}(h:aYP bY s=true)(k:Nat)(hk:k<s.size):vV s (k+1)=10 * vV s k+(((s[k]'hk).toNat:Int) - 48):=by
 unfold vV;rw[aEo (by omega),aEo (by omega),take_snoc s k hk,YQ];have:=aBk h k hk;omega
theorem XP(s:ByteArray)(k:Nat)(hk:s.size<=k):vV s (k+1)=10 * vV s k:=by
 unfold vV;rw[aEg (by omega)];by_cases c:k<=s.size
 . obtain rfl:k=s.size:=by omega
   rw[aEo c,show s.size+1 - s.size=1 by omega,aSY (by simp)];unfold bJ p10;omega
 rw[aEg c,show k+1 - s.size=(k - s.size)+1 by omega,WM];rw[<-Int.mul_assoc,Int.mul_comm]
theorem XQ(s:ByteArray)(k:Nat):0<=vV s k:=by
 unfold vV;split
 . omega
 exact aYj (DY s) (by have:=RH (k - s.size);omega)
theorem aD4{s:ByteArray}(h:aYP bY s=true)(k:Nat):vV s k<=vV s (k+1):=by
 have:=XQ s k;by_cases c:k<s.size
 . rw[XR h k c];have:=aBk h k c;omega
 rw[XP s k (by omega)];omega
theorem EY{s:ByteArray}(h:aYP bY s=true)(k:Nat): ∀j,vV s k<=vV s (k+j)
 |0=>aU2 _
 |j+1=>Int.le_trans (EY h k j) (aD4 h (k+j))
theorem oV(s:ByteArray)(e:Int):0<=jJ s e:=aYj (DY s) (by have:=RH e.toNat;omega)
theorem yU{s:ByteArray}(h:aYP bY s=true):s.data.toList.all aHS=true:=by
 unfold aYP at h;rw[aIJ]at h ⊢;intro c hc;have:=h c hc;unfold bY at this;have:=aEF this;unfold aHS;rw[aNF];omega
theorem aK5{s:ByteArray}(h:aYP bY s=true)(hs:s.size<=17):bJ s<100000000000000000:=by
 have:=dec_lt s.data.toList 0 0 (yU h) (by decide);rw[aHG]at this;have hp:(10:Nat) ^ s.data.toList.length<=10 ^ 17:=aPB (by omega) (by simpa using hs);have hp2:(10:Nat) ^ 17=100000000000000000:=by decide
 unfold bJ;omega
theorem uD{s:ByteArray}(h:aYP bY s=true)(hs:s.size=4):bJ s<10000:=by
 have:=dec_lt s.data.toList 0 0 (yU h) (by decide);rw[aHG,show s.data.toList.length=4 by simpa using hs]at this;unfold bJ;omega
def fO(s:ByteArray):Nat->List Int
 |0=>[]
 |g+1=>fO s g++(if kF s ((g:Int)+1)then[(g:Int)+1]else[])
theorem qR(s:ByteArray)(g:Nat):fO s (g+1)=fO s g++(if kF s ((g:Int)+1)then[(g:Int)+1]else[]):=rfl
theorem FD{s:ByteArray}{g:Nat}(h:kF s ((g:Int)+1)=true):fO s (g+1)=fO s g++[(g:Int)+1]:=by rw[qR,aEo h]
theorem MP{s:ByteArray}{g:Nat}(h:kF s ((g:Int)+1)=false):fO s (g+1)=fO s g:=by rw[qR,aEg (by rw[h];decide),aO6]
theorem qH(s:ByteArray): ∀g,(fO s g).length<=g
 |0=>aC4 _
 |g+1=>by
  have:=qH s g;rw[qR,aLx];split<;>simp<;>omega
theorem iY(s:ByteArray)(n:Int): ∀g:Nat,n ∈ fO s g↔(1<=n/\n<=g/\kF s n=true)
 |0=>by simp[fO];omega
 |g+1=>by
  have ih:=iY s n g;rw[qR,aIK,ih];by_cases h:kF s ((g:Int)+1)=true
  . rw[aEo h,aL8];constructor
    . rintro(⟨h1,h2,h3⟩|rfl)
      . exact⟨h1,by omega,h3⟩
      exact⟨by omega,by omega,h⟩
    rintro⟨h1,h2,h3⟩;by_cases e:n=(g:Int)+1
    . exact .inr e
    exact .inl ⟨h1,by omega,h3⟩
  rw[aEg h];constructor
  . rintro(⟨h1,h2,h3⟩|h)
    . exact⟨h1,by omega,h3⟩
    cases h
  rintro⟨h1,h2,h3⟩;refine .inl ⟨h1,?_,h3⟩;by_cases e:n=(g:Int)+1
  . subst e;exact absurd h3 h
  omega
theorem mZ(s:ByteArray): ∀g,(fO s g).Pairwise (· < ·)
 |0=>List.Pairwise.nil
 |g+1=>by
  rw[qR,List.pairwise_append];refine⟨mZ s g,?_,?_⟩
  . split<;>simp
  intro a ha b hb;have:=(iY s a g).1 ha;split at hb
  . rw[aL8]at hb;omega
  cases hb
theorem MO(s:ByteArray)(g:Nat):fJ s g=true↔fO s g≠[]:=by
 rw[xY];constructor
 . rintro⟨n,h1,h2,h3⟩ e;have:=(iY s n g).2 ⟨h1,h2,h3⟩;rw[e]at this;cases this
 intro h;cases e:fO s g with
 |nil=>exact absurd e h
 |cons a l=>
  have:=(iY s a g).1 (by rw[e];exact aIC ..);exact⟨a,this⟩
def Dt.ms(d:Dt):List Int:=if d.aH≠0 then[d.aH]else if d.mo.size=0 then[0]else fO d.mo 12
def Dt.ds(d:Dt):List Int:=if d.da.size=0 then[0]else fO d.da 31
def Dt.len(d:Dt)(y m:Int):Int:=if d.da.size=0 then 0 else aYT y m
theorem Dt.aDY(d:Dt):d.ms.Pairwise (· < ·):=by
 unfold Dt.ms;split
 . simp
 split
 . simp
 exact mZ _ _
theorem Dt.aEj(d:Dt):d.ds.Pairwise (· < ·):=by
 unfold Dt.ds;split
 . simp
 exact mZ _ _
theorem Dt.aGN(d:Dt):d.ms.length<=12:=by
 unfold Dt.ms;split
 . simp
 split
 . simp
 exact qH _ _
theorem Dt.aOt(d:Dt):d.ds.length<=31:=by
 unfold Dt.ds;split
 . simp
 exact qH _ _
def Dt.Fill(d:Dt)(y m k:Int):Prop:=d.In y/\m ∈ d.ms/\k ∈ d.ds/\k<=d.len y m
def Dt.ge(d:Dt)(y m k cy cm ck:Int):Prop:=cy<y\/(y=cy/\(d.mo.size=0\/cm<m\/(m=cm/\(d.da.size=0\/ck<=k))))
def lt3(y m k z n j:Int):Prop:=y<z\/(y=z/\(m<n\/(m=n/\k<j)))
def Dt.FU(d:Dt)(cy cm ck:Int)(y m k:Int)(found:Bool):Prop:=
 (found=true/\d.Fill y m k/\d.ge y m k cy cm ck/\ ∀z n j,d.Fill z n j->d.ge z n j cy cm ck-> ¬lt3 z n j y m k)\/
 (found=false/\y=0/\m=0/\k=0/\ ∀z n j,d.Fill z n j-> ¬d.ge z n j cy cm ck)
def Dt.Year(d:Dt)(n v:Int)(ok:Bool):Prop:=
 (ok=true/\d.In v/\n<=v/\ ∀u,d.In u->n<=u->v<=u)\/(ok=false/\ ∀u,d.In u-> ¬n<=u)
def Dt.NoM(d:Dt)(y cy cm ck:Int)(i:Nat):Prop:= ∀j,j<i-> ∀(h:j<d.ms.length),∀k,k ∈ d.ds->k<=d.len y (d.ms[j]'h)-> ¬d.ge y (d.ms[j]'h) k cy cm ck
def Dt.NoK(d:Dt)(y m cy cm ck:Int)(i:Nat):Prop:= ∀j,j<i-> ∀(h:j<d.ds.length),(d.ds[j]'h)<=d.len y m-> ¬d.ge y m (d.ds[j]'h) cy cm ck
def Dt.NoY(d:Dt)(y cy cm ck:Int):Prop:= ∀z n j,d.Fill z n j->z<y-> ¬d.ge z n j cy cm ck
theorem Dt.aGD(d:Dt)(y cy cm ck:Int):d.NoM y cy cm ck 0:=fun j h=>by omega
theorem Dt.aGG(d:Dt)(y m cy cm ck:Int):d.NoK y m cy cm ck 0:=fun j h=>by omega
theorem Dt.aGH{d:Dt}{y m cy cm ck:Int}{i:Nat}(h:d.NoK y m cy cm ck i)(hi:i<d.ds.length)(hn:(d.ds[i]'hi)<=d.len y m-> ¬d.ge y m (d.ds[i]'hi) cy cm ck):d.NoK y m cy cm ck (i+1):=by
 intro j hj hl;by_cases e:j=i
 . subst e;exact hn
 exact h j (by omega) hl
theorem Dt.aGE{d:Dt}{y cy cm ck:Int}{i:Nat}(h:d.NoM y cy cm ck i)(hi:i<d.ms.length)(hn:d.NoK y (d.ms[i]'hi) cy cm ck d.ds.length):d.NoM y cy cm ck (i+1):=by
 intro j hj hl;by_cases e:j=i
 . subst e;intro k hk hkl;obtain⟨a,ha,rfl⟩:=aPo hk;exact hn a ha ha hkl
 exact h j (by omega) hl
theorem Dt.aGF{d:Dt}{y cy cm ck:Int}{i:Nat}(h:d.NoM y cy cm ck i)(hi:i<d.ms.length)(hy:y=cy)(hm:d.mo.size≠0)(hlt:(d.ms[i]'hi)<cm):d.NoM y cy cm ck (i+1):=by
 intro j hj hl;by_cases e:j=i
 . subst e;rintro k hk hkl (g|⟨g,g|g|⟨g,_⟩⟩)<;>omega
 exact h j (by omega) hl
theorem Dt.aGC{d:Dt}{y v cy cm ck:Int}{ok:Bool}(h:d.NoY y cy cm ck)(hm:d.NoM y cy cm ck d.ms.length)(hy:d.Year (y+1) v ok):
 (ok=true->d.NoY v cy cm ck)/\(ok=false-> ∀z n j,d.Fill z n j-> ¬d.ge z n j cy cm ck):=by
 have key: ∀z n j,d.Fill z n j->z<=y-> ¬d.ge z n j cy cm ck:=by
  intro z n j hf hz;by_cases e:z=y
  . subst e;obtain⟨h1,h2,h3,h4⟩:=hf;obtain⟨a,ha,rfl⟩:=aPo h2;exact hm a ha ha j h3 h4
  exact h z n j hf (by omega)
 constructor
 . rintro rfl z n j hf hz;rcases hy with⟨_,_,_,hmin⟩|⟨h,_⟩
   . exact key z n j hf (by have:=hmin z hf.1;omega)
   cases h
 rintro rfl z n j hf;rcases hy with⟨h,_⟩|⟨_,hno⟩
 . cases h
 exact key z n j hf (by have:=hno z hf.1;omega)
theorem Dt.aDU{d:Dt}{v cy cm ck:Int}{ok:Bool}(hy:d.Year cy v ok):
 (ok=true->d.NoY v cy cm ck)/\(ok=false-> ∀z n j,d.Fill z n j-> ¬d.ge z n j cy cm ck):=by
 have low: ∀z n j,z<cy-> ¬d.ge z n j cy cm ck:=by rintro z n j h (g|⟨g,_⟩)<;>omega
 constructor
 . rintro rfl z n j hf hz;rcases hy with⟨_,_,_,hmin⟩|⟨h,_⟩
   . exact low z n j (by have:=hmin z hf.1;omega)
   cases h
 rintro rfl z n j hf;rcases hy with⟨h,_⟩|⟨_,hno⟩
 . cases h
 exact low z n j (by have:=hno z hf.1;omega)
theorem PD{l:List Int}(hs:l.Pairwise (· < ·)){i j:Nat}(hi:i<l.length)(hj:j<l.length)(h:(l[j]'hj)<(l[i]'hi)):j<i:=by
 by_cases c:j<i
 . exact c
 exfalso;by_cases e:i=j
 . subst e;omega
 have:=List.pairwise_iff_getElem.1 hs i j hi hj (by omega);omega
theorem Dt.found{d:Dt}{y cy cm ck:Int}{i j:Nat}(hY:d.In y)(hN:d.NoY y cy cm ck)(hM:d.NoM y cy cm ck i)(hi:i<d.ms.length)(hK:d.NoK y (d.ms[i]'hi) cy cm ck j)(hj:j<d.ds.length)
 (hl:(d.ds[j]'hj)<=d.len y (d.ms[i]'hi)) (hg:d.ge y (d.ms[i]'hi) (d.ds[j]'hj) cy cm ck):d.FU cy cm ck y (d.ms[i]'hi) (d.ds[j]'hj) true:=by
 refine .inl ⟨rfl,⟨hY,aUw hi,aUw hj,hl⟩,hg,?_⟩;intro z n k hf hge hlt;rcases hlt with h|⟨rfl,h|⟨rfl,h⟩⟩
 . exact hN z n k hf h hge
 . obtain⟨_,h2,h3,h4⟩:=hf;obtain⟨a,ha,rfl⟩:=aPo h2;exact hM a (PD d.aDY hi ha h) ha k h3 h4 hge
 obtain⟨_,h2,h3,h4⟩:=hf;obtain⟨a,ha,rfl⟩:=aPo h3;exact hK a (PD d.aEj hj ha h) ha h4 hge
theorem Dt.VL{d:Dt}{y m k cy cm ck:Int}{found:Bool}(hb: ∀u,d.In u->cy<u)(h:d.FU cy cm ck y m k found):found=true↔ ∃y m k,d.Fill y m k:=by
 constructor
 . rintro rfl;rcases h with⟨_,hf,_⟩|⟨h,_⟩
   . exact⟨_,_,_,hf⟩
   cases h
 rintro⟨z,n,j,hf⟩;rcases h with⟨h,_⟩|⟨_,_,_,_,hno⟩
 . exact h
 exact absurd (.inl (hb z hf.1)) (hno z n j hf)
open Classical in
def Dt.err(d:Dt):Int:=if d.form≠0 then d.form else if d.da.size≠0/\ ¬ ∃y m k,d.Fill y m k then 8 else 0
theorem Dt.yM{d:Dt}(h:d.form=0):d.mF=true/\(d.mo.size=0\/d.aH≠0\/fJ d.mo 12=true)/\(d.da.size=0\/(d.mo.size≠0/\d.aH=0/\fJ d.da 31=true))/\jR d.m0 d.m1 d.m2 (comps d.mo d.da)=0:=by
 unfold Dt.form at h;split at h
 . omega
 rename_i h1;split at h
 . omega
 rename_i h2;split at h
 . omega
 rename_i h3;refine⟨by simpa using h1,?_,?_,h⟩
 . by_cases c:d.mo.size=0
   . exact .inl c
   right
   by_cases c2:d.aH=0
   . right
     cases e3:fJ d.mo 12
     . exact absurd (by rw[aBW c,aDx c2,e3];rfl) h2
     rfl
   exact .inl c2
 by_cases c:d.da.size=0
 . exact .inl c
 right
 have c1: ¬d.mo.size=0:=fun e1=>h3 (by rw[aDx e1,aBW c];rfl);have c2:d.aH=0:=by
  by_cases e2:d.aH=0
  . exact e2
  exact absurd (by rw[aBW c1,aBW c,aBW e2];rfl) h3
 refine⟨c1,c2,?_⟩;cases e3:fJ d.da 31
 . exact absurd (by rw[aBW c1,aBW c,aDx c2,e3];rfl) h3
 rfl
theorem Dt.uH{d:Dt}(h:d.mF=true):d.U7=true/\(0<d.sig->d.mo.size=0)/\d.far=false:=by
 unfold Dt.mF at h;rw[aEb,aEb]at h;obtain⟨h1,h2,h3⟩:=h;refine⟨h1,fun hs=>?_,by cases e:d.far;rfl;rw[e]at h3;cases h3⟩;by_cases c:d.mo.size=0
 . exact c
 rw[aDx hs,aBW c]at h2;cases h2
theorem Dt.aCo{d:Dt}(h:d.U7=true){y:Int}(hy:d.In y): -10000000000000000<=y/\y<=10000000000000000:=by
 unfold Dt.In at hy;by_cases c:d.mask=true
 . rw[aEo c]at hy;split at hy
   . obtain⟨⟨h1,h2,_⟩,_⟩:=hy;omega
   obtain⟨h1,h2,_⟩:=hy;omega
 rw [aEg c]at hy;have h0:=oV d.dg d.ex;have h1:jJ d.dg d.ex<=10000000000000000:=by
  unfold Dt.U7 at h;cases hl:d.long
  . rw[hl]at h;obtain⟨h1,h2,h3,_⟩:=kH h;have hd:=(lD h2).1 (by unfold Dt.mask at c;simpa using c);have:=uD hd h1;have hz:jJ d.dg 0=bJ d.dg:=by unfold jJ p10;simp
    rw[h3,hz];omega
  rw[hl]at h;exact(kN h).2.2.2.2.2.2.1
 unfold Dt.mag at hy;split at hy<;>omega
theorem aD7{b o:Nat->Int}(hb:MOk b)(ho: ∀i,i<4->o i=if b i=88 then 48 else b i):vZ b (gI o)/\ ∀f,vZ b f->gI o<=f:=by
 have m0:=hb 0 (by omega);have m1:=hb 1 (by omega);have m2:=hb 2 (by omega);have m3:=hb 3 (by omega);have o0:=ho 0 (by omega);have o1:=ho 1 (by omega);have o2:=ho 2 (by omega);have o3:=ho 3 (by omega);simp only[pY];unfold gI;generalize b 0=b0 at *;generalize b 1=b1 at *;generalize b 2=b2 at *;generalize b 3=b3 at *;constructor
 . refine⟨o 0 - 48,o 1 - 48,o 2 - 48,o 3 - 48,?_⟩;split at o0<;>split at o1<;>split at o2<;>split at o3<;>(refine⟨?_,?_,?_,?_,?_,?_,?_,?_,?_,?_,?_,?_,?_⟩<;>omega)
 rintro f ⟨d0,d1,d2,d3,a0,a1,a2,a3,a4,a5,a6,a7,rfl,e0,e1,e2,e3⟩;split at o0<;>split at o1<;>split at o2<;>split at o3<;>omega
theorem TG{b o:Nat->Int}(hb:MOk b)(ho: ∀i,i<4->o i=if b i=88 then 57 else b i):vZ b (gI o)/\ ∀f,vZ b f->f<=gI o:=by
 have m0:=hb 0 (by omega);have m1:=hb 1 (by omega);have m2:=hb 2 (by omega);have m3:=hb 3 (by omega);have o0:=ho 0 (by omega);have o1:=ho 1 (by omega);have o2:=ho 2 (by omega);have o3:=ho 3 (by omega);simp only[pY];unfold gI;generalize b 0=b0 at *;generalize b 1=b1 at *;generalize b 2=b2 at *;generalize b 3=b3 at *;constructor
 . refine⟨o 0 - 48,o 1 - 48,o 2 - 48,o 3 - 48,?_⟩;split at o0<;>split at o1<;>split at o2<;>split at o3<;>(refine⟨?_,?_,?_,?_,?_,?_,?_,?_,?_,?_,?_,?_,?_⟩<;>omega)
 rintro f ⟨d0,d1,d2,d3,a0,a1,a2,a3,a4,a5,a6,a7,rfl,e0,e1,e2,e3⟩;split at o0<;>split at o1<;>split at o2<;>split at o3<;>omega
def EH(b:Nat->Int)(n v e:Int):Prop:=(e=0/\vZ b v/\n<=v/\ ∀f,vZ b f->n<=f->v<=f)\/(e=16/\v=0/\ ∀f,vZ b f->f<n)
def EF(b:Nat->Int)(n v e:Int):Prop:=(e=0/\vZ b v/\v<=n/\ ∀f,vZ b f->f<=n->f<=v)\/(e=16/\v=0/\ ∀f,vZ b f->n<f)
theorem aGJ{b:Nat->Int}{n v e:Int}(h:EH b n v e):0<=v/\v<=9999/\(e=0\/e=16):=by
 rcases h with⟨h1,⟨h2,h3,_⟩,_⟩|⟨h1,h2,_⟩<;>omega
theorem WJ{b:Nat->Int}{n v e:Int}(h:EF b n v e):0<=v/\v<=9999/\(e=0\/e=16):=by
 rcases h with⟨h1,⟨h2,h3,_⟩,_⟩|⟨h1,h2,_⟩<;>omega
end
section
open Go.RowKit Go.Lib
abbrev SS(w0:World):Prop:=lI BJ.g.n BJ.l w0 hp
abbrev Same(w0:World)(f:FuncId)(args:Array Value)(v:Value):Prop:=aCT prog w0 f args v
theorem zc{w0:World}(T:DT){f:FuncId}{args:Array Value}{v:Value}{LP:List (TypeId × Value × Value × Value)}{LO:List (FuncId × Array Value × Value)}(ps:List UR)(os:List EG)(xs:List AV)(l:Value)(hp:OpS prog LP)(ho:OrS prog w0 LO)(hl:T.all=true:=by kernel_rfl)(h: ∀l,T.ok tb0 l ps os .nil 60 LG f xs []=true:=by intro l;kernel_rfl)
 (hc:(seB tb0 ps os LG f xs,ps.map (fun e=>(e.1,dS l e.2.1,dS l e.2.2.1,dS l e.2.2.2)),os.map (fun e=>(e.1,(e.2.1.map (dS l)).toArray,dS l e.2.2)),T.den l,(xs.map (dS l)).toArray)=(true,LP,LO,v,args):=by kernel_rfl):Same w0 f args v:=
 eU (h l) (jO w0) (O8 w0) hp ho (kL hl) hc
theorem UU{w:World}{f:FuncId}{args:Array Value}{v u:Value}(g:Same w f args v)(e:v=u):Calls prog f args w fun r w'=>r=.returned u/\Below w.heap.size w w':=(e ▸ g) w (aDA _ _)
theorem eqB{P:Program}{w:World}{f:FuncId}{args:Array Value}{v:Ending}(h:Calls P f args w fun r w'=>r=v/\w=w'):Calls P f args w fun r w'=>r=v/\Below w.heap.size w w':=h.mono fun _ _ h=>⟨h.1,h.2 ▸ aDA _ _⟩
abbrev rK(a b c d:AV):AV:=.agg [a,b,c,d]
abbrev qi:Nat->AV:=GR
abbrev qe:Nat->AV:=X4
abbrev qb:Nat->AV:=l_b
abbrev qu:Nat->AV:=X3
abbrev qs:Nat->AV:=l_s
abbrev qz:AV:=.v (.int .i64 0)
abbrev q8:AV:=.v (.int .i8 0)
abbrev qt:AV:=.v (.bool true)
abbrev qf:AV:=.v (.bool false)
abbrev dL(d:Dt):List Value:=[.bool d.neg,.bool d.long,.string d.dg,.int .i64 d.ex,.int .i64 d.sig,.string d.mo,.string d.da,.int .u8 d.m0,.int .u8 d.m1,.int .u8 d.m2]
abbrev lv(a b:List Value):Value:=.agg (a++b).toArray
abbrev ZU(t:TypeId)(a b:Value)(z:Bool):Prop:=EqV prog t a b z
def r4(a lo b hi:Int):Value:=.agg #[.int .i8 a,.int .i64 lo,.int .i8 b,.int .i64 hi]
abbrev oI(kd:Int)(d:Dt)(fk:Int)(f:Dt)(tk:Int)(t:Dt)(v:Value)(ey lt:Bool):List Value:=[.int .u8 kd,.bool d.neg,.bool d.long,.string d.dg,.int .i64 d.ex,.int .i64 d.sig,.string d.mo,.string d.da,.int .u8 d.m0,.int .u8 d.m1,.int .u8 d.m2,.int .u8 fk,.bool f.neg,.bool f.long,.string f.dg,.int .i64 f.ex,.int .i64 f.sig,.string f.mo,.string f.da,.int .u8 f.m0,.int .u8 f.m1,.int .u8 f.m2,.int .u8 tk,.bool t.neg,.bool t.long,.string t.dg,.int .i64 t.ex,.int .i64 t.sig,.string t.mo,.string t.da,.int .u8 t.m0,.int .u8 t.m1,.int .u8 t.m2,v,.bool ey,.bool lt]
abbrev exV(kd:Int)(d:Dt)(fk:Int)(f:Dt)(tk:Int)(t:Dt)(v:Value)(ey lt:Bool):Value:=.agg (oI kd d fk f tk t v ey lt).toArray
abbrev dV(d:Dt):Value:=.agg #[.bool d.neg,.bool d.long,.string d.dg,.int .i64 d.ex,.int .i64 d.sig,.string d.mo,.string d.da,.int .u8 d.m0,.int .u8 d.m1,.int .u8 d.m2]
abbrev bV(k:Int)(d:Dt):Value:=.agg #[.int .u8 k,.bool d.neg,.bool d.long,.string d.dg,.int .i64 d.ex,.int .i64 d.sig,.string d.mo,.string d.da,.int .u8 d.m0,.int .u8 d.m1,.int .u8 d.m2]
abbrev iV(d:Dt)(r:Bool)(y:Dt):Value:=.agg #[.bool d.neg,.bool d.long,.string d.dg,.int .i64 d.ex,.int .i64 d.sig,.string d.mo,.string d.da,.int .u8 d.m0,.int .u8 d.m1,.int .u8 d.m2,.bool r,.bool y.neg,.bool y.long,.string y.dg,.int .i64 y.ex,.int .i64 y.sig,.string y.mo,.string y.da,.int .u8 y.m0,.int .u8 y.m1,.int .u8 y.m2]
def z0:Dt:=⟨false,false,⟨#[]⟩,0,0,⟨#[]⟩,⟨#[]⟩,0,0,0⟩
def yh0:List AV:=[(qb 0),(qb 1),(qs 2),(qi 3),(qi 4)]
def NZ:List AV:=[(qb 0),(qb 1),(qs 2),(qi 3),(qi 4),(qs 5),(qs 6),(qu 7),(qu 8),(qu 9)]
theorem aPA(d:Dt) (w0:World) (H0:Same w0 126 #[(.agg #[(.bool d.neg),(.bool d.long),(.string d.dg),(.int .i64 d.ex),(.int .i64 d.sig)])] (.int .i64 6)):Same w0 121 #[(dP d)] (.bool false):=
 zc (.leaf qf) [] [(126,[.agg yh0],.v (.int .i64 6))] [.agg NZ] (lv (dL d) []) .nil (.cons H0 .nil)
theorem aPz(d:Dt) (w0:World) (H0:Same w0 126 #[(.agg #[(.bool d.neg),(.bool d.long),(.string d.dg),(.int .i64 d.ex),(.int .i64 d.sig)])] (.int .i64 0))(H1:Same w0 120 #[(dP d)] (.tuple #[(.int .i64 0),(.bool false)])):Same w0 121 #[(dP d)] (cond (decide (0<d.sig)) (cond (d.mo.toList==(⟨#[]⟩:ByteArray).toList) (.bool true) (.bool false)) (.bool true)):=
 zc (.node 1 qz (qi 4) (.node 2 (qs 5) (.v (.string ⟨#[]⟩)) (.leaf qt) (.leaf qf)) (.leaf qt)) [] [(126,[.agg yh0],qz),(120,[.agg NZ],.eP [qz,qf])] [.agg NZ] (lv (dL d) []) .nil (.cons H0 (.cons H1 .nil))
theorem aPy(d:Dt)(code:Int)(w0:World) (H0:Same w0 126 #[(.agg #[(.bool d.neg),(.bool d.long),(.string d.dg),(.int .i64 d.ex),(.int .i64 d.sig)])] (.int .i64 0))(H1:Same w0 120 #[(dP d)] (.tuple #[(.int .i64 code),(.bool true)]))(H2:Same w0 170 #[(.agg #[(.bool d.neg),(.bool d.long),(.string d.dg),(.int .i64 d.ex),(.int .i64 d.sig)])] (.bool true)):Same w0 121 #[(dP d)] (cond (decide (0<d.sig)) (cond (d.mo.toList==(⟨#[]⟩:ByteArray).toList) (.bool true) (.bool false)) (.bool true)):=
 zc (.node 1 qz (qi 4) (.node 2 (qs 5) (.v (.string ⟨#[]⟩)) (.leaf qt) (.leaf qf)) (.leaf qt)) [] [(126,[.agg yh0],qz),(120,[.agg NZ],.eP [(qi 10),qt]),(170,[.agg yh0],qt)] [.agg NZ] (lv (dL d) [.int .i64 code]) .nil (.cons H0 (.cons H1 (.cons H2 .nil)))
theorem aLv(d:Dt)(code:Int)(v:Int)(e:Int)(ra:Int)(rl:Int)(rb:Int)(rh:Int)(w0:World) (H0:Same w0 126 #[(.agg #[(.bool d.neg),(.bool d.long),(.string d.dg),(.int .i64 d.ex),(.int .i64 d.sig)])] (.int .i64 0))(H1:Same w0 120 #[(dP d)] (.tuple #[(.int .i64 code),(.bool true)]))(H2:Same w0 170 #[(.agg #[(.bool d.neg),(.bool d.long),(.string d.dg),(.int .i64 d.ex),(.int .i64 d.sig)])] (.bool false))(H3:Same w0 141 #[(.agg #[(.bool d.neg),(.bool d.long),(.string d.dg),(.int .i64 d.ex),(.int .i64 d.sig)])] (.tuple #[(.int .i64 v),(.int .i64 0)]))(H4:Same w0 171 #[(.int .i64 v),(.int .i64 code)] (.tuple #[(r4 ra rl rb rh),(.int .i64 e)])):Same w0 121 #[(dP d)] (cond (decide (0<d.sig)) (cond (d.mo.toList==(⟨#[]⟩:ByteArray).toList) (cond (e==0) (.bool true) (.bool false)) (.bool false)) (cond (e==0) (.bool true) (.bool false))):=
 zc (.node 1 qz (qi 4) (.node 2 (qs 5) (.v (.string ⟨#[]⟩)) (.node 0 (qi 12) qz (.leaf qt) (.leaf qf)) (.leaf qf)) (.node 0 (qi 12) qz (.leaf qt) (.leaf qf))) [] [(126,[.agg yh0],qz),(120,[.agg NZ],.eP [(qi 10),qt]),(170,[.agg yh0],qf),(141,[.agg yh0],.eP [(qi 11),qz]),(171,[(qi 11),(qi 10)],.eP [rK (qe 13) (qi 14) (qe 15) (qi 16),(qi 12)])] [.agg NZ] (lv (dL d) [.int .i64 code,.int .i64 v,.int .i64 e,.int .i8 ra,.int .i64 rl,.int .i8 rb,.int .i64 rh]) .nil (.cons H0 (.cons H1 (.cons H2 (.cons H3 (.cons H4 .nil)))))
theorem aIS(d:Dt)(code:Int)(n:Int)(e:Int)(se:Bool)(yo:Bool)(g:Bool)(h:Bool)(w0:World) (H0:Same w0 120 #[(dP d)] (.tuple #[(.int .i64 code),(.bool se)]))(H1:Same w0 121 #[(dP d)] (.bool yo))(H2:Same w0 122 #[(.string d.mo),(.int .i64 12)] (.bool g))(H3:Same w0 122 #[(.string d.da),(.int .i64 31)] (.bool h))(H4:Same w0 89 #[(dP d)] (.int .i64 n))(H5:Same w0 123 #[(.agg #[(.int .u8 d.m0),(.int .u8 d.m1),(.int .u8 d.m2)]),(.int .i64 n)] (.int .i64 e)):Same w0 88 #[(dP d)] (cond se (cond yo (cond (d.mo.toList==(⟨#[]⟩:ByteArray).toList) (cond (d.da.toList==(⟨#[]⟩:ByteArray).toList) (.int .i64 e) (.int .i64 8)) (cond (d.da.toList==(⟨#[]⟩:ByteArray).toList) (.int .i64 e) (.int .i64 8))) (.int .i64 6)) (cond yo (cond (d.mo.toList==(⟨#[]⟩:ByteArray).toList) (cond (d.da.toList==(⟨#[]⟩:ByteArray).toList) (.int .i64 e) (.int .i64 8)) (cond g (cond (d.da.toList==(⟨#[]⟩:ByteArray).toList) (.int .i64 e) (cond h (.int .i64 e) (.int .i64 8))) (.int .i64 7))) (.int .i64 6))):=
 zc (.node 3 (qb 13) (qb 13) (.node 3 (qb 14) (qb 14) (.node 2 (qs 5) (.v (.string ⟨#[]⟩)) (.node 2 (qs 6) (.v (.string ⟨#[]⟩)) (.leaf (qi 12)) (.leaf (.v (.int .i64 8)))) (.node 2 (qs 6) (.v (.string ⟨#[]⟩)) (.leaf (qi 12)) (.leaf (.v (.int .i64 8))))) (.leaf (.v (.int .i64 6)))) (.node 3 (qb 14) (qb 14) (.node 2 (qs 5) (.v (.string ⟨#[]⟩)) (.node 2 (qs 6) (.v (.string ⟨#[]⟩)) (.leaf (qi 12)) (.leaf (.v (.int .i64 8)))) (.node 3 (qb 15) (qb 15) (.node 2 (qs 6) (.v (.string ⟨#[]⟩)) (.leaf (qi 12)) (.node 3 (qb 16) (qb 16) (.leaf (qi 12)) (.leaf (.v (.int .i64 8))))) (.leaf (.v (.int .i64 7))))) (.leaf (.v (.int .i64 6))))) [] [(120,[.agg NZ],.eP [(qi 10),(qb 13)]),(121,[.agg NZ],(qb 14)),(122,[(qs 5),.v (.int .i64 12)],(qb 15)),(122,[(qs 6),.v (.int .i64 31)],(qb 16)),(89,[.agg NZ],(qi 11)),(123,[.agg [(qu 7),(qu 8),(qu 9)],(qi 11)],(qi 12))] [.agg NZ] (lv (dL d) [.int .i64 code,.int .i64 n,.int .i64 e,.bool se,.bool yo,.bool g,.bool h]) .nil (.cons H0 (.cons H1 (.cons H2 (.cons H3 (.cons H4 (.cons H5 .nil))))))
theorem aIR (a:Int)(b:Int)(c:Int)(w0:World)  :Same w0 123 #[(.agg #[(.int .u8 a),(.int .u8 b),(.int .u8 c)]),(.int .i64 1)] (cond (decide (3<a)) (.int .i64 9) (cond (decide (3<b)) (.int .i64 9) (cond (b==0) (cond (decide (3<c)) (.int .i64 9) (cond (c==0) (.int .i64 0) (.int .i64 9))) (.int .i64 9)))):=
 zc (.node 1 (.v (.int .u8 3)) (qu 0) (.leaf (.v (.int .i64 9))) (.node 1 (.v (.int .u8 3)) (qu 1) (.leaf (.v (.int .i64 9))) (.node 0 (qu 1) (.v (.int .u8 0)) (.node 1 (.v (.int .u8 3)) (qu 2) (.leaf (.v (.int .i64 9))) (.node 0 (qu 2) (.v (.int .u8 0)) (.leaf qz) (.leaf (.v (.int .i64 9))))) (.leaf (.v (.int .i64 9)))))) [] [] [.agg [(qu 0),(qu 1),(qu 2)],.v (.int .i64 1)] (.agg #[.int .u8 a,.int .u8 b,.int .u8 c]) .nil .nil
theorem aIQ (a:Int)(b:Int)(c:Int)(w0:World)  :Same w0 123 #[(.agg #[(.int .u8 a),(.int .u8 b),(.int .u8 c)]),(.int .i64 2)] (cond (decide (3<a)) (.int .i64 9) (cond (decide (3<b)) (.int .i64 9) (cond (decide (3<c)) (.int .i64 9) (cond (c==0) (.int .i64 0) (.int .i64 9))))):=
 zc (.node 1 (.v (.int .u8 3)) (qu 0) (.leaf (.v (.int .i64 9))) (.node 1 (.v (.int .u8 3)) (qu 1) (.leaf (.v (.int .i64 9))) (.node 1 (.v (.int .u8 3)) (qu 2) (.leaf (.v (.int .i64 9))) (.node 0 (qu 2) (.v (.int .u8 0)) (.leaf qz) (.leaf (.v (.int .i64 9))))))) [] [] [.agg [(qu 0),(qu 1),(qu 2)],.v (.int .i64 2)] (.agg #[.int .u8 a,.int .u8 b,.int .u8 c]) .nil .nil
theorem aIP (a:Int)(b:Int)(c:Int)(w0:World)  :Same w0 123 #[(.agg #[(.int .u8 a),(.int .u8 b),(.int .u8 c)]),(.int .i64 3)] (cond (decide (3<a)) (.int .i64 9) (cond (decide (3<b)) (.int .i64 9) (cond (decide (3<c)) (.int .i64 9) (.int .i64 0)))):=
 zc (.node 1 (.v (.int .u8 3)) (qu 0) (.leaf (.v (.int .i64 9))) (.node 1 (.v (.int .u8 3)) (qu 1) (.leaf (.v (.int .i64 9))) (.node 1 (.v (.int .u8 3)) (qu 2) (.leaf (.v (.int .i64 9))) (.leaf qz)))) [] [] [.agg [(qu 0),(qu 1),(qu 2)],.v (.int .i64 3)] (.agg #[.int .u8 a,.int .u8 b,.int .u8 c]) .nil .nil
theorem aEK (a:Int)(b:Int)(c:Int)(w0:World)  :Same w0 156 #[(.agg #[(.int .u8 a),(.int .u8 b),(.int .u8 c)]),(.int .i64 1)] (cond (decide (3<a)) (.int .i64 9) (cond (decide (3<b)) (.int .i64 9) (cond (decide (0<b)) (.int .i64 9) (cond (decide (3<c)) (.int .i64 9) (cond (decide (0<c)) (.int .i64 9) (.int .i64 0)))))):=
 zc (.node 1 (.v (.int .u8 3)) (qu 0) (.leaf (.v (.int .i64 9))) (.node 1 (.v (.int .u8 3)) (qu 1) (.leaf (.v (.int .i64 9))) (.node 1 (.v (.int .u8 0)) (qu 1) (.leaf (.v (.int .i64 9))) (.node 1 (.v (.int .u8 3)) (qu 2) (.leaf (.v (.int .i64 9))) (.node 1 (.v (.int .u8 0)) (qu 2) (.leaf (.v (.int .i64 9))) (.leaf qz)))))) [] [] [.agg [(qu 0),(qu 1),(qu 2)],.v (.int .i64 1)] (.agg #[.int .u8 a,.int .u8 b,.int .u8 c]) .nil .nil
theorem aEJ (a:Int)(b:Int)(c:Int)(w0:World)  :Same w0 156 #[(.agg #[(.int .u8 a),(.int .u8 b),(.int .u8 c)]),(.int .i64 2)] (cond (decide (3<a)) (.int .i64 9) (cond (decide (3<b)) (.int .i64 9) (cond (decide (3<c)) (.int .i64 9) (cond (decide (0<c)) (.int .i64 9) (.int .i64 0))))):=
 zc (.node 1 (.v (.int .u8 3)) (qu 0) (.leaf (.v (.int .i64 9))) (.node 1 (.v (.int .u8 3)) (qu 1) (.leaf (.v (.int .i64 9))) (.node 1 (.v (.int .u8 3)) (qu 2) (.leaf (.v (.int .i64 9))) (.node 1 (.v (.int .u8 0)) (qu 2) (.leaf (.v (.int .i64 9))) (.leaf qz))))) [] [] [.agg [(qu 0),(qu 1),(qu 2)],.v (.int .i64 2)] (.agg #[.int .u8 a,.int .u8 b,.int .u8 c]) .nil .nil
theorem aEI (a:Int)(b:Int)(c:Int)(w0:World)  :Same w0 156 #[(.agg #[(.int .u8 a),(.int .u8 b),(.int .u8 c)]),(.int .i64 3)] (cond (decide (3<a)) (.int .i64 9) (cond (decide (3<b)) (.int .i64 9) (cond (decide (3<c)) (.int .i64 9) (.int .i64 0)))):=
 zc (.node 1 (.v (.int .u8 3)) (qu 0) (.leaf (.v (.int .i64 9))) (.node 1 (.v (.int .u8 3)) (qu 1) (.leaf (.v (.int .i64 9))) (.node 1 (.v (.int .u8 3)) (qu 2) (.leaf (.v (.int .i64 9))) (.leaf qz)))) [] [] [.agg [(qu 0),(qu 1),(qu 2)],.v (.int .i64 3)] (.agg #[.int .u8 a,.int .u8 b,.int .u8 c]) .nil .nil
theorem aIO(d:Dt) (w0:World)  :Same w0 46 #[(dP d)] (cond (d.mo.toList==(⟨#[]⟩:ByteArray).toList) (cond (d.da.toList==(⟨#[]⟩:ByteArray).toList) (.int .i64 1) (.int .i64 2)) (cond (d.da.toList==(⟨#[]⟩:ByteArray).toList) (.int .i64 2) (.int .i64 3))):=
 zc (.node 2 (qs 5) (.v (.string ⟨#[]⟩)) (.node 2 (qs 6) (.v (.string ⟨#[]⟩)) (.leaf (.v (.int .i64 1))) (.leaf (.v (.int .i64 2)))) (.node 2 (qs 6) (.v (.string ⟨#[]⟩)) (.leaf (.v (.int .i64 2))) (.leaf (.v (.int .i64 3))))) [] [] [.agg NZ] (lv (dL d) []) .nil .nil
theorem aMx(d:Dt) (w0:World)  :Same w0 89 #[(dP d)] (cond (d.mo.toList==(⟨#[]⟩:ByteArray).toList) (cond (d.da.toList==(⟨#[]⟩:ByteArray).toList) (.int .i64 1) (.int .i64 2)) (cond (d.da.toList==(⟨#[]⟩:ByteArray).toList) (.int .i64 2) (.int .i64 3))):=
 zc (.node 2 (qs 5) (.v (.string ⟨#[]⟩)) (.node 2 (qs 6) (.v (.string ⟨#[]⟩)) (.leaf (.v (.int .i64 1))) (.leaf (.v (.int .i64 2)))) (.node 2 (qs 6) (.v (.string ⟨#[]⟩)) (.leaf (.v (.int .i64 2))) (.leaf (.v (.int .i64 3))))) [] [] [.agg NZ] (lv (dL d) []) .nil .nil
theorem aIN(d:Dt) (w0:World) (H0:Same w0 68 #[(.agg #[(.bool d.neg),(.bool d.long),(.string d.dg),(.int .i64 d.ex),(.int .i64 d.sig)])] (.int .i64 0)):Same w0 154 #[(dP d)] (.int .i64 0):=
 zc (.leaf qz) [] [(68,[.agg yh0],qz)] [.agg NZ] (lv (dL d) []) .nil (.cons H0 .nil)
theorem aIM(d:Dt)(code:Int)(w0:World) (H0:Same w0 68 #[(.agg #[(.bool d.neg),(.bool d.long),(.string d.dg),(.int .i64 d.ex),(.int .i64 d.sig)])] (.int .i64 1))(H1:Same w0 44 #[(dP d)] (.int .i64 code))(H2:Same w0 196 #[(.agg #[(.bool d.neg),(.bool d.long),(.string d.dg),(.int .i64 d.ex),(.int .i64 d.sig)])] (.int .i64 1)):Same w0 154 #[(dP d)] (cond (decide (0<d.sig)) (cond (d.mo.toList==(⟨#[]⟩:ByteArray).toList) (cond (code==24) (.int .i64 1) (cond (code==28) (.int .i64 1) (cond (code==30) (.int .i64 1) (.int .i64 1)))) (.int .i64 0)) (cond (code==24) (.int .i64 1) (cond (code==28) (.int .i64 1) (cond (code==30) (.int .i64 1) (.int .i64 1))))):=
 zc (.node 1 qz (qi 4) (.node 2 (qs 5) (.v (.string ⟨#[]⟩)) (.node 0 (qi 10) (.v (.int .i64 24)) (.leaf (.v (.int .i64 1))) (.node 0 (qi 10) (.v (.int .i64 28)) (.leaf (.v (.int .i64 1))) (.node 0 (qi 10) (.v (.int .i64 30)) (.leaf (.v (.int .i64 1))) (.leaf (.v (.int .i64 1)))))) (.leaf qz)) (.node 0 (qi 10) (.v (.int .i64 24)) (.leaf (.v (.int .i64 1))) (.node 0 (qi 10) (.v (.int .i64 28)) (.leaf (.v (.int .i64 1))) (.node 0 (qi 10) (.v (.int .i64 30)) (.leaf (.v (.int .i64 1))) (.leaf (.v (.int .i64 1))))))) [] [(68,[.agg yh0],.v (.int .i64 1)),(44,[.agg NZ],(qi 10)),(196,[.agg yh0],.v (.int .i64 1))] [.agg NZ] (lv (dL d) [.int .i64 code]) .nil (.cons H0 (.cons H1 (.cons H2 .nil)))
theorem aIL(d:Dt)(code:Int)(v:Int)(x:Int)(w0:World) (H0:Same w0 68 #[(.agg #[(.bool d.neg),(.bool d.long),(.string d.dg),(.int .i64 d.ex),(.int .i64 d.sig)])] (.int .i64 1))(H1:Same w0 44 #[(dP d)] (.int .i64 code))(H2:Same w0 196 #[(.agg #[(.bool d.neg),(.bool d.long),(.string d.dg),(.int .i64 d.ex),(.int .i64 d.sig)])] (.int .i64 0))(H3:Same w0 71 #[(.string d.dg),(.int .i64 d.ex)] (.tuple #[(.int .i64 v),(.int .i64 x)])):Same w0 154 #[(dP d)] (cond (decide (0<d.sig)) (cond (d.mo.toList==(⟨#[]⟩:ByteArray).toList) (cond (code==24) (cond (v==10000000000000000) (cond d.neg (.int .i64 1) (.int .i64 0)) (.int .i64 1)) (cond (code==28) (cond (v==10000000000000000) (cond d.neg (.int .i64 1) (.int .i64 0)) (.int .i64 1)) (cond (code==30) (cond (v==10000000000000000) (cond d.neg (.int .i64 1) (.int .i64 0)) (.int .i64 1)) (.int .i64 1)))) (.int .i64 0)) (cond (code==24) (cond (v==10000000000000000) (cond d.neg (.int .i64 1) (.int .i64 0)) (.int .i64 1)) (cond (code==28) (cond (v==10000000000000000) (cond d.neg (.int .i64 1) (.int .i64 0)) (.int .i64 1)) (cond (code==30) (cond (v==10000000000000000) (cond d.neg (.int .i64 1) (.int .i64 0)) (.int .i64 1)) (.int .i64 1))))):=
 zc (.node 1 qz (qi 4) (.node 2 (qs 5) (.v (.string ⟨#[]⟩)) (.node 0 (qi 10) (.v (.int .i64 24)) (.node 0 (qi 11) (.v (.int .i64 10000000000000000)) (.node 3 (qb 0) (qb 0) (.leaf (.v (.int .i64 1))) (.leaf qz)) (.leaf (.v (.int .i64 1)))) (.node 0 (qi 10) (.v (.int .i64 28)) (.node 0 (qi 11) (.v (.int .i64 10000000000000000)) (.node 3 (qb 0) (qb 0) (.leaf (.v (.int .i64 1))) (.leaf qz)) (.leaf (.v (.int .i64 1)))) (.node 0 (qi 10) (.v (.int .i64 30)) (.node 0 (qi 11) (.v (.int .i64 10000000000000000)) (.node 3 (qb 0) (qb 0) (.leaf (.v (.int .i64 1))) (.leaf qz)) (.leaf (.v (.int .i64 1)))) (.leaf (.v (.int .i64 1)))))) (.leaf qz)) (.node 0 (qi 10) (.v (.int .i64 24)) (.node 0 (qi 11) (.v (.int .i64 10000000000000000)) (.node 3 (qb 0) (qb 0) (.leaf (.v (.int .i64 1))) (.leaf qz)) (.leaf (.v (.int .i64 1)))) (.node 0 (qi 10) (.v (.int .i64 28)) (.node 0 (qi 11) (.v (.int .i64 10000000000000000)) (.node 3 (qb 0) (qb 0) (.leaf (.v (.int .i64 1))) (.leaf qz)) (.leaf (.v (.int .i64 1)))) (.node 0 (qi 10) (.v (.int .i64 30)) (.node 0 (qi 11) (.v (.int .i64 10000000000000000)) (.node 3 (qb 0) (qb 0) (.leaf (.v (.int .i64 1))) (.leaf qz)) (.leaf (.v (.int .i64 1)))) (.leaf (.v (.int .i64 1))))))) [] [(68,[.agg yh0],.v (.int .i64 1)),(44,[.agg NZ],(qi 10)),(196,[.agg yh0],qz),(71,[(qs 2),(qi 3)],.eP [(qi 11),(qi 12)])] [.agg NZ] (lv (dL d) [.int .i64 code,.int .i64 v,.int .i64 x]) .nil (.cons H0 (.cons H1 (.cons H2 (.cons H3 .nil))))
def aBy:DT:=(.node 0 (qi 10) qz (.leaf (.v (.int .i64 6))) (.node 2 (qs 5) (.v (.string ⟨#[]⟩)) (.node 2 (qs 6) (.v (.string ⟨#[]⟩)) (.leaf (qi 15)) (.leaf (.v (.int .i64 8)))) (.node 0 (qi 11) qz (.node 0 (qi 12) qz (.leaf (.v (.int .i64 7))) (.node 2 (qs 6) (.v (.string ⟨#[]⟩)) (.leaf (qi 15)) (.node 1 qz (qi 11) DT.no (.node 0 (qi 13) qz (.leaf (.v (.int .i64 8))) (.leaf (qi 15)))))) (.node 2 (qs 6) (.v (.string ⟨#[]⟩)) (.leaf (qi 15)) (.node 1 qz (qi 11) (.leaf (.v (.int .i64 8))) (.node 0 (qi 13) qz (.leaf (.v (.int .i64 8))) (.leaf (qi 15))))))))
theorem WY(l:Value):aBy.ok tb0 l [] [(154,[.agg NZ],(qi 10)),(44,[.agg NZ],(qi 11)),(155,[(qs 5),.v (.int .i64 12)],(qi 12)),(155,[(qs 6),.v (.int .i64 31)],(qi 13)),(46,[.agg NZ],(qi 14)),(156,[.agg [(qu 7),(qu 8),(qu 9)],(qi 14)],(qi 15))] .nil 60 LG 109 [.agg NZ] []=true:=by kernel_rfl
theorem aEL(d:Dt)(yr:Int)(code:Int)(u:Int)(v:Int)(n:Int)(e:Int)(w0:World) (H0:Same w0 154 #[(dP d)] (.int .i64 yr))(H1:Same w0 44 #[(dP d)] (.int .i64 code))(H2:Same w0 155 #[(.string d.mo),(.int .i64 12)] (.int .i64 u))(H3:Same w0 155 #[(.string d.da),(.int .i64 31)] (.int .i64 v))(H4:Same w0 46 #[(dP d)] (.int .i64 n))(H5:Same w0 156 #[(.agg #[(.int .u8 d.m0),(.int .u8 d.m1),(.int .u8 d.m2)]),(.int .i64 n)] (.int .i64 e)):Same w0 109 #[(dP d)] (cond (yr==0) (.int .i64 6) (cond (d.mo.toList==(⟨#[]⟩:ByteArray).toList) (cond (d.da.toList==(⟨#[]⟩:ByteArray).toList) (.int .i64 e) (.int .i64 8)) (cond (code==0) (cond (u==0) (.int .i64 7) (cond (d.da.toList==(⟨#[]⟩:ByteArray).toList) (.int .i64 e) (cond (decide (0<code)) (.bool false) (cond (v==0) (.int .i64 8) (.int .i64 e))))) (cond (d.da.toList==(⟨#[]⟩:ByteArray).toList) (.int .i64 e) (cond (decide (0<code)) (.int .i64 8) (cond (v==0) (.int .i64 8) (.int .i64 e))))))):=
 eU (WY (lv (dL d) [.int .i64 yr,.int .i64 code,.int .i64 u,.int .i64 v,.int .i64 n,.int .i64 e])) (jO w0) (O8 w0) .nil (.cons H0 (.cons H1 (.cons H2 (.cons H3 (.cons H4 (.cons H5 .nil)))))) (iD (by kernel_rfl:_=((((yr==0)=true->True)/\((yr==0)=false->(((d.mo.toList==(⟨#[]⟩:ByteArray).toList)=true->(((d.da.toList==(⟨#[]⟩:ByteArray).toList)=true->True)/\((d.da.toList==(⟨#[]⟩:ByteArray).toList)=false->True)))/\((d.mo.toList==(⟨#[]⟩:ByteArray).toList)=false->(((code==0)=true->(((u==0)=true->True)/\((u==0)=false->(((d.da.toList==(⟨#[]⟩:ByteArray).toList)=true->True)/\((d.da.toList==(⟨#[]⟩:ByteArray).toList)=false->(((decide (0<code))=true->False)/\((decide (0<code))=false->(((v==0)=true->True)/\((v==0)=false->True)))))))))/\((code==0)=false->(((d.da.toList==(⟨#[]⟩:ByteArray).toList)=true->True)/\((d.da.toList==(⟨#[]⟩:ByteArray).toList)=false->(((decide (0<code))=true->True)/\((decide (0<code))=false->(((v==0)=true->True)/\((v==0)=false->True)))))))))))))) (⟨fun h0=>trivial,fun h0=>⟨fun h1=>⟨fun h2=>trivial,fun h2=>trivial⟩,fun h1=>⟨fun h2=>⟨fun h3=>trivial,fun h3=>⟨fun h4=>trivial,fun h4=>⟨fun h5=>(by simp only[aI3,aEB,aEZ,aFe]at *;omega),fun h5=>⟨fun h6=>trivial,fun h6=>trivial⟩⟩⟩⟩,fun h2=>⟨fun h3=>trivial,fun h3=>⟨fun h4=>trivial,fun h4=>⟨fun h5=>trivial,fun h5=>trivial⟩⟩⟩⟩⟩⟩)) (by kernel_rfl)
end
end
end Go.Proofs.YtebgcnnhokclaaaGreatDoor
namespace Go.Proofs
open Go.Shelf
theorem Tryz.iW{P:Program}{n:Nat}{f g:Func}(h:P.funcs[n]? =some f)(e:f=g:=by kernel_rfl):P.funcs[n]? =some g:=h.trans (congrArg some e)
def Tryz.XW:Go.Shelf.Ren:=⟨fun|160=>173|232=>210|231=>225|227=>211|234=>212|233=>226|236=>213|235=>227|228=>250|271=>251|151=>224|197=>253|120=>281|152=>258|260=>283|137=>160|119=>285|224=>286|225=>287|217=>199|266=>247|n=>n,fun|9=>9|4=>4|3=>3|5=>5|117=>264|116=>263|0=>0|124=>267|21=>21|105=>299|46=>329|119=>352|139=>355|138=>354|n=>n,fun|3=>7|4=>8|n=>n⟩
theorem Tryz.lays160:Go.Proofs.Lays.n160 Tryz.prog Tryz.XW:={
 mixed:=by kernel_rfl
 f119:=Tryz.iW Tryz.func285
 f120:=Tryz.iW Tryz.func281
 f137:=Tryz.iW Tryz.func160
 f151:=Tryz.iW Tryz.func224
 f152:=Tryz.iW Tryz.func258
 f160:=Tryz.iW Tryz.func173
 f197:=Tryz.iW Tryz.func253
 f217:=Tryz.iW Tryz.func199
 f224:=Tryz.iW Tryz.func286
 f225:=Tryz.iW Tryz.func287
 f227:=Tryz.iW Tryz.func211
 f228:=Tryz.iW Tryz.func250
 f231:=Tryz.iW Tryz.func225
 f232:=Tryz.iW Tryz.func210
 f233:=Tryz.iW Tryz.func226
 f234:=Tryz.iW Tryz.func212
 f235:=Tryz.iW Tryz.func227
 f236:=Tryz.iW Tryz.func213
 f260:=Tryz.iW Tryz.func283
 f266:=Tryz.iW Tryz.func247
 f271:=Tryz.iW Tryz.func251
 t0:=Tryz.underlying0
 a0:=Tryz.isAgg0
 z0:=Tryz.sizeOf0
 v0:=Tryz.zeroValue0
 t3:=Tryz.underlying3
 a3:=Tryz.isAgg3
 z3:=Tryz.sizeOf3
 v3:=Tryz.zeroValue3
 t4:=Tryz.underlying4
 a4:=Tryz.isAgg4
 z4:=Tryz.sizeOf4
 v4:=Tryz.zeroValue4
 t5:=Tryz.underlying5
 a5:=Tryz.isAgg5
 z5:=Tryz.sizeOf5
 v5:=Tryz.zeroValue5
 t9:=Tryz.underlying9
 a9:=Tryz.isAgg9
 z9:=Tryz.sizeOf9
 v9:=Tryz.zeroValue9
 t21:=Tryz.underlying21
 a21:=Tryz.isAgg21
 z21:=Tryz.sizeOf21
 v21:=Tryz.zeroValue21
 t46:=Tryz.underlying329
 a46:=Tryz.isAgg329
 z46:=Tryz.sizeOf329
 v46:=Tryz.zeroValue329
 t105:=Tryz.underlying299
 a105:=Tryz.isAgg299
 z105:=Tryz.sizeOf299
 v105:=Tryz.zeroValue299
 t116:=Tryz.underlying263
 a116:=Tryz.isAgg263
 z116:=Tryz.sizeOf263
 t117:=Tryz.underlying264
 a117:=Tryz.isAgg264
 z117:=Tryz.sizeOf264
 v117:=Tryz.zeroValue264
 t119:=Tryz.underlying352
 a119:=Tryz.isAgg352
 z119:=Tryz.sizeOf352
 t124:=Tryz.underlying267
 a124:=Tryz.isAgg267
 z124:=Tryz.sizeOf267
 v124:=Tryz.zeroValue267
 t138:=Tryz.underlying354
 a138:=Tryz.isAgg354
 z138:=Tryz.sizeOf354
 v138:=Tryz.zeroValue354
 t139:=Tryz.underlying355
 a139:=Tryz.isAgg355
 z139:=Tryz.sizeOf355
 v139:=Tryz.zeroValue355
 g3:=by kernel_rfl
 g4:=by kernel_rfl }
open Go.RowKit in
theorem Tryz.strings_Trim_one(s:ByteArray)(c:UInt8)(hc:c.toNat<128)(w:World)(hs:s.size<=9223372036854775807):
 Calls Tryz.prog 173 #[.string s,.string ⟨#[c]⟩] w fun e w'=>e=.returned (.string ⟨(Lib.trimB s.data.toList c).toArray⟩)/\(w'=w\/w'=w.drew):=Any.strings_Trim_one Tryz.lays160 s c hc w hs
def Tryz.X0:Go.Shelf.Ren:=⟨fun|119=>285|n=>n,fun|21=>21|4=>4|n=>n,fun|n=>n⟩
theorem Tryz.lays119:Go.Proofs.Lays.n119 Tryz.prog Tryz.X0:={
 mixed:=by kernel_rfl
 f119:=Tryz.iW Tryz.func285
 t4:=Tryz.underlying4
 a4:=Tryz.isAgg4
 z4:=Tryz.sizeOf4
 v4:=Tryz.zeroValue4
 t21:=Tryz.underlying21
 a21:=Tryz.isAgg21
 z21:=Tryz.sizeOf21
 v21:=Tryz.zeroValue21 }
theorem Tryz.utf8_ValidRune(r:Int)(w:World):
 Calls Tryz.prog 285 #[.int .i32 r] w fun e w'=>e=.returned (.bool (Lib.validRune r))/\w'=w:=Any.utf8_ValidRune Tryz.lays119 r w
def Tryz.XZ:Go.Shelf.Ren:=⟨fun|137=>160|217=>199|266=>247|n=>n,fun|9=>9|5=>5|3=>3|n=>n,fun|n=>n⟩
theorem Tryz.lays137:Go.Proofs.Lays.n137 Tryz.prog Tryz.XZ:={
 mixed:=by kernel_rfl
 f137:=Tryz.iW Tryz.func160
 f217:=Tryz.iW Tryz.func199
 f266:=Tryz.iW Tryz.func247
 t3:=Tryz.underlying3
 a3:=Tryz.isAgg3
 z3:=Tryz.sizeOf3
 v3:=Tryz.zeroValue3
 t5:=Tryz.underlying5
 a5:=Tryz.isAgg5
 z5:=Tryz.sizeOf5
 v5:=Tryz.zeroValue5
 t9:=Tryz.underlying9
 a9:=Tryz.isAgg9
 z9:=Tryz.sizeOf9
 v9:=Tryz.zeroValue9 }
open Go.RowKit in
theorem Tryz.strings_IndexByte(s:ByteArray)(c:Int)(w:World):
 Calls Tryz.prog 160 #[.string s,.int .u8 c] w fun e w'=>e=.returned (.int .i64 (Lib.indexByte s.data.toList c.toNat.toUInt8))/\w'=w:=Any.strings_IndexByte Tryz.lays137 s c w
def Tryz.SL:Go.Shelf.Ren:=⟨fun|172=>142|244=>182|245=>183|247=>238|279=>239|280=>240|281=>241|282=>242|287=>277|316=>278|171=>129|205=>279|321=>299|322=>300|243=>176|246=>229|283=>264|284=>265|285=>266|286=>267|129=>291|317=>290|318=>292|319=>293|320=>294|337=>303|338=>304|n=>n,fun|9=>9|3=>3|75=>204|76=>205|4=>4|5=>5|167=>289|37=>90|0=>0|85=>285|2=>2|168=>290|53=>311|175=>327|46=>329|210=>331|127=>96|145=>349|143=>347|21=>21|171=>310|173=>314|212=>336|51=>337|20=>20|213=>338|232=>359|233=>360|80=>105|n=>n,fun|15=>3|16=>4|17=>5|18=>9|19=>10|n=>n⟩
theorem Tryz.laysC172:Go.Proofs.LaysC.n172 Tryz.prog Tryz.SL:={
 mixed:=by kernel_rfl
 f129:=Tryz.iW Tryz.func291
 f171:=Tryz.iW Tryz.func129
 f172:=Tryz.iW Tryz.func142
 f205:=Tryz.iW Tryz.func279
 f243:=Tryz.iW Tryz.func176
 f244:=Tryz.iW Tryz.func182
 f245:=Tryz.iW Tryz.func183
 f246:=Tryz.iW Tryz.func229
 f247:=Tryz.iW Tryz.func238
 f279:=Tryz.iW Tryz.func239
 f280:=Tryz.iW Tryz.func240
 f281:=Tryz.iW Tryz.func241
 f282:=Tryz.iW Tryz.func242
 f283:=Tryz.iW Tryz.func264
 f284:=Tryz.iW Tryz.func265
 f285:=Tryz.iW Tryz.func266
 f286:=Tryz.iW Tryz.func267
 f287:=Tryz.iW Tryz.func277
 f316:=Tryz.iW Tryz.func278
 f317:=Tryz.iW Tryz.func290
 f318:=Tryz.iW Tryz.func292
 f319:=Tryz.iW Tryz.func293
 f320:=Tryz.iW Tryz.func294
 f321:=Tryz.iW Tryz.func299
 f322:=Tryz.iW Tryz.func300
 f337:=Tryz.iW Tryz.func303
 f338:=Tryz.iW Tryz.func304
 t0:=Tryz.underlying0
 a0:=Tryz.isAgg0
 z0:=Tryz.sizeOf0
 v0:=Tryz.zeroValue0
 t2:=Tryz.underlying2
 a2:=Tryz.isAgg2
 z2:=Tryz.sizeOf2
 v2:=Tryz.zeroValue2
 t3:=Tryz.underlying3
 a3:=Tryz.isAgg3
 z3:=Tryz.sizeOf3
 v3:=Tryz.zeroValue3
 t4:=Tryz.underlying4
 a4:=Tryz.isAgg4
 z4:=Tryz.sizeOf4
 v4:=Tryz.zeroValue4
 t5:=Tryz.underlying5
 a5:=Tryz.isAgg5
 z5:=Tryz.sizeOf5
 v5:=Tryz.zeroValue5
 t9:=Tryz.underlying9
 a9:=Tryz.isAgg9
 z9:=Tryz.sizeOf9
 v9:=Tryz.zeroValue9
 t20:=Tryz.underlying20
 a20:=Tryz.isAgg20
 z20:=Tryz.sizeOf20
 v20:=Tryz.zeroValue20
 t21:=Tryz.underlying21
 a21:=Tryz.isAgg21
 z21:=Tryz.sizeOf21
 v21:=Tryz.zeroValue21
 t37:=Tryz.underlying90
 a37:=Tryz.isAgg90
 z37:=Tryz.sizeOf90
 v37:=Tryz.zeroValue90
 t46:=Tryz.underlying329
 a46:=Tryz.isAgg329
 z46:=Tryz.sizeOf329
 v46:=Tryz.zeroValue329
 t51:=Tryz.underlying337
 a51:=Tryz.isAgg337
 z51:=Tryz.sizeOf337
 v51:=Tryz.zeroValue337
 t53:=Tryz.underlying311
 a53:=Tryz.isAgg311
 z53:=Tryz.sizeOf311
 v53:=Tryz.zeroValue311
 t75:=Tryz.underlying204
 a75:=Tryz.isAgg204
 z75:=Tryz.sizeOf204
 v75:=Tryz.zeroValue204
 t76:=Tryz.underlying205
 a76:=Tryz.isAgg205
 z76:=Tryz.sizeOf205
 v76:=Tryz.zeroValue205
 t85:=Tryz.underlying285
 a85:=Tryz.isAgg285
 z85:=Tryz.sizeOf285
 v85:=Tryz.zeroValue285
 t127:=Tryz.underlying96
 a127:=Tryz.isAgg96
 z127:=Tryz.sizeOf96
 v127:=Tryz.zeroValue96
 t143:=Tryz.underlying347
 a143:=Tryz.isAgg347
 z143:=Tryz.sizeOf347
 v143:=Tryz.zeroValue347
 t145:=Tryz.underlying349
 a145:=Tryz.isAgg349
 z145:=Tryz.sizeOf349
 v145:=Tryz.zeroValue349
 t167:=Tryz.underlying289
 a167:=Tryz.isAgg289
 z167:=Tryz.sizeOf289
 v167:=Tryz.zeroValue289
 t168:=Tryz.underlying290
 a168:=Tryz.isAgg290
 z168:=Tryz.sizeOf290
 v168:=Tryz.zeroValue290
 t171:=Tryz.underlying310
 a171:=Tryz.isAgg310
 z171:=Tryz.sizeOf310
 v171:=Tryz.zeroValue310
 t173:=Tryz.underlying314
 a173:=Tryz.isAgg314
 z173:=Tryz.sizeOf314
 v173:=Tryz.zeroValue314
 t175:=Tryz.underlying327
 a175:=Tryz.isAgg327
 z175:=Tryz.sizeOf327
 v175:=Tryz.zeroValue327
 t210:=Tryz.underlying331
 a210:=Tryz.isAgg331
 z210:=Tryz.sizeOf331
 v210:=Tryz.zeroValue331
 t212:=Tryz.underlying336
 a212:=Tryz.isAgg336
 z212:=Tryz.sizeOf336
 v212:=Tryz.zeroValue336
 t213:=Tryz.underlying338
 a213:=Tryz.isAgg338
 z213:=Tryz.sizeOf338
 t232:=Tryz.underlying359
 a232:=Tryz.isAgg359
 z232:=Tryz.sizeOf359
 v232:=Tryz.zeroValue359
 t233:=Tryz.underlying360
 a233:=Tryz.isAgg360
 z233:=Tryz.sizeOf360
 v233:=Tryz.zeroValue360
 g15:=by kernel_rfl
 g16:=by kernel_rfl
 g17:=by kernel_rfl
 g18:=by kernel_rfl
 g19:=by kernel_rfl
 t80:=Tryz.underlying105
 a80:=Tryz.isAgg105
 z80:=Tryz.sizeOf105
 v80:=Tryz.zeroValue105
 i0:=by kernel_rfl
 i2:=by kernel_rfl
 i3:=by kernel_rfl
 i4:=by kernel_rfl
 i5:=by kernel_rfl
 i9:=by kernel_rfl
 i20:=by kernel_rfl
 i21:=by kernel_rfl
 i37:=by kernel_rfl
 i46:=by kernel_rfl
 i51:=by kernel_rfl
 i53:=by kernel_rfl
 i75:=by kernel_rfl
 i76:=by kernel_rfl
 i80:=by kernel_rfl
 i85:=by kernel_rfl
 i127:=by kernel_rfl
 i143:=by kernel_rfl
 i145:=by kernel_rfl
 i167:=by kernel_rfl
 i168:=by kernel_rfl
 i171:=by kernel_rfl
 i173:=by kernel_rfl
 i175:=by kernel_rfl
 i210:=by kernel_rfl
 i212:=by kernel_rfl
 i232:=by kernel_rfl
 i233:=by kernel_rfl
 m15:=by kernel_rfl
 m16:=by kernel_rfl
 m17:=by kernel_rfl
 m18:=by kernel_rfl
 m19:=by kernel_rfl
 c0:=by kernel_rfl
 c2:=by kernel_rfl
 c3:=by kernel_rfl
 c4:=by kernel_rfl
 c5:=by kernel_rfl
 c9:=by kernel_rfl
 c20:=by kernel_rfl
 c21:=by kernel_rfl
 c37:=by kernel_rfl
 c46:=by kernel_rfl
 c51:=by kernel_rfl
 c53:=by kernel_rfl
 c75:=by kernel_rfl
 c76:=by kernel_rfl
 c80:=by kernel_rfl
 c85:=by kernel_rfl
 c127:=by kernel_rfl
 c143:=by kernel_rfl
 c145:=by kernel_rfl
 c167:=by kernel_rfl
 c168:=by kernel_rfl
 c171:=by kernel_rfl
 c173:=by kernel_rfl
 c175:=by kernel_rfl
 c210:=by kernel_rfl
 c212:=by kernel_rfl
 c213:=by kernel_rfl
 c232:=by kernel_rfl
 c233:=by kernel_rfl }
open Go.RowKit in
theorem Tryz.strconv_Atoi_ok(s:ByteArray)(hmax:s.size<=9223372036854775806)(v:Int)(h:Lib.atoiAll s.data.toList=.ok v)(w:World):
 Calls Tryz.prog 142 #[.string s] w fun e w'=>e=.returned (.tuple #[.int .i64 v,.nilIface])/\(w'=w\/ ∃t,w'=Lib.bytesWorld w 5 t):=Any.strconv_Atoi_ok Tryz.laysC172 s hmax v h w
open Go.RowKit in
theorem Tryz.strconv_Atoi_syntax(s:ByteArray)(hlim:s.size<=281474976710656)(h0: ∀v,Lib.atoiAll s.data.toList≠ .ok v)(h1:Lib.atoiAll s.data.toList≠ .range)(ev:Value)(w:World)(hv:w.cell? ⟨3,0,none⟩=some ev)(hev:ev=.nilIface\/ ∃te pe,ev=.iface te pe):
 Calls Tryz.prog 142 #[.string s] w fun e w'=> ∃N,e=.returned (.tuple #[.int .i64 (0),.iface 290 (.pointer (some ⟨N,0,none⟩))])/\w.heap.size<=N/\w'.heap[N]? =some (.cells #[.string ⟨#[65,116,111,105]⟩,.string s,ev] 331 (0,0))/\Below w.heap.size w w':=by
 cases hh:Lib.atoiAll s.data.toList
 . exact absurd hh (h0 _)
 . exact Any.strconv_Atoi_syntax Tryz.laysC172 s hlim hh ev w hv hev
 exact absurd hh h1
open Go.RowKit in
theorem Tryz.strconv_Atoi_range(s:ByteArray)(hlim:s.size<=281474976710656)(h:Lib.atoiAll s.data.toList=.range)(ev:Value)(w:World)(hv:w.cell? ⟨4,0,none⟩=some ev)(hev:ev=.nilIface\/ ∃te pe,ev=.iface te pe):
 Calls Tryz.prog 142 #[.string s] w fun e w'=> ∃N,e=.returned (.tuple #[.int .i64 (Lib.atoiSat s.data.toList),.iface 290 (.pointer (some ⟨N,0,none⟩))])/\w.heap.size<=N/\w'.heap[N]? =some (.cells #[.string ⟨#[65,116,111,105]⟩,.string s,ev] 331 (0,0))/\Below w.heap.size w w':=Any.strconv_Atoi_range Tryz.laysC172 s hlim h ev w hv hev
def Tryz.SK:Go.Shelf.Ren:=⟨fun|174=>235|247=>238|245=>183|287=>277|279=>239|280=>240|281=>241|282=>242|321=>299|322=>300|316=>278|171=>129|205=>279|243=>176|246=>229|283=>264|284=>265|285=>266|286=>267|129=>291|317=>290|318=>292|319=>293|320=>294|337=>303|338=>304|n=>n,fun|9=>9|3=>3|2=>2|75=>204|85=>285|4=>4|167=>289|5=>5|53=>311|175=>327|46=>329|168=>290|37=>90|0=>0|210=>331|21=>21|127=>96|145=>349|143=>347|171=>310|173=>314|212=>336|51=>337|20=>20|213=>338|232=>359|233=>360|80=>105|n=>n,fun|15=>3|16=>4|17=>5|18=>9|19=>10|n=>n⟩
theorem Tryz.aG3:Go.Proofs.LaysC.n174 Tryz.prog Tryz.SK:={
 mixed:=by kernel_rfl
 f129:=Tryz.iW Tryz.func291
 f171:=Tryz.iW Tryz.func129
 f174:=Tryz.iW Tryz.func235
 f205:=Tryz.iW Tryz.func279
 f243:=Tryz.iW Tryz.func176
 f245:=Tryz.iW Tryz.func183
 f246:=Tryz.iW Tryz.func229
 f247:=Tryz.iW Tryz.func238
 f279:=Tryz.iW Tryz.func239
 f280:=Tryz.iW Tryz.func240
 f281:=Tryz.iW Tryz.func241
 f282:=Tryz.iW Tryz.func242
 f283:=Tryz.iW Tryz.func264
 f284:=Tryz.iW Tryz.func265
 f285:=Tryz.iW Tryz.func266
 f286:=Tryz.iW Tryz.func267
 f287:=Tryz.iW Tryz.func277
 f316:=Tryz.iW Tryz.func278
 f317:=Tryz.iW Tryz.func290
 f318:=Tryz.iW Tryz.func292
 f319:=Tryz.iW Tryz.func293
 f320:=Tryz.iW Tryz.func294
 f321:=Tryz.iW Tryz.func299
 f322:=Tryz.iW Tryz.func300
 f337:=Tryz.iW Tryz.func303
 f338:=Tryz.iW Tryz.func304
 t0:=Tryz.underlying0
 a0:=Tryz.isAgg0
 z0:=Tryz.sizeOf0
 v0:=Tryz.zeroValue0
 t2:=Tryz.underlying2
 a2:=Tryz.isAgg2
 z2:=Tryz.sizeOf2
 v2:=Tryz.zeroValue2
 t3:=Tryz.underlying3
 a3:=Tryz.isAgg3
 z3:=Tryz.sizeOf3
 v3:=Tryz.zeroValue3
 t4:=Tryz.underlying4
 a4:=Tryz.isAgg4
 z4:=Tryz.sizeOf4
 v4:=Tryz.zeroValue4
 t5:=Tryz.underlying5
 a5:=Tryz.isAgg5
 z5:=Tryz.sizeOf5
 v5:=Tryz.zeroValue5
 t9:=Tryz.underlying9
 a9:=Tryz.isAgg9
 z9:=Tryz.sizeOf9
 v9:=Tryz.zeroValue9
 t20:=Tryz.underlying20
 a20:=Tryz.isAgg20
 z20:=Tryz.sizeOf20
 v20:=Tryz.zeroValue20
 t21:=Tryz.underlying21
 a21:=Tryz.isAgg21
 z21:=Tryz.sizeOf21
 v21:=Tryz.zeroValue21
 t37:=Tryz.underlying90
 a37:=Tryz.isAgg90
 z37:=Tryz.sizeOf90
 v37:=Tryz.zeroValue90
 t46:=Tryz.underlying329
 a46:=Tryz.isAgg329
 z46:=Tryz.sizeOf329
 v46:=Tryz.zeroValue329
 t51:=Tryz.underlying337
 a51:=Tryz.isAgg337
 z51:=Tryz.sizeOf337
 v51:=Tryz.zeroValue337
 t53:=Tryz.underlying311
 a53:=Tryz.isAgg311
 z53:=Tryz.sizeOf311
 v53:=Tryz.zeroValue311
 t75:=Tryz.underlying204
 a75:=Tryz.isAgg204
 z75:=Tryz.sizeOf204
 v75:=Tryz.zeroValue204
 t85:=Tryz.underlying285
 a85:=Tryz.isAgg285
 z85:=Tryz.sizeOf285
 v85:=Tryz.zeroValue285
 t127:=Tryz.underlying96
 a127:=Tryz.isAgg96
 z127:=Tryz.sizeOf96
 v127:=Tryz.zeroValue96
 t143:=Tryz.underlying347
 a143:=Tryz.isAgg347
 z143:=Tryz.sizeOf347
 v143:=Tryz.zeroValue347
 t145:=Tryz.underlying349
 a145:=Tryz.isAgg349
 z145:=Tryz.sizeOf349
 v145:=Tryz.zeroValue349
 t167:=Tryz.underlying289
 a167:=Tryz.isAgg289
 z167:=Tryz.sizeOf289
 v167:=Tryz.zeroValue289
 t168:=Tryz.underlying290
 a168:=Tryz.isAgg290
 z168:=Tryz.sizeOf290
 v168:=Tryz.zeroValue290
 t171:=Tryz.underlying310
 a171:=Tryz.isAgg310
 z171:=Tryz.sizeOf310
 v171:=Tryz.zeroValue310
 t173:=Tryz.underlying314
 a173:=Tryz.isAgg314
 z173:=Tryz.sizeOf314
 v173:=Tryz.zeroValue314
 t175:=Tryz.underlying327
 a175:=Tryz.isAgg327
 z175:=Tryz.sizeOf327
 v175:=Tryz.zeroValue327
 t210:=Tryz.underlying331
 a210:=Tryz.isAgg331
 z210:=Tryz.sizeOf331
 v210:=Tryz.zeroValue331
 t212:=Tryz.underlying336
 a212:=Tryz.isAgg336
 z212:=Tryz.sizeOf336
 v212:=Tryz.zeroValue336
 t213:=Tryz.underlying338
 a213:=Tryz.isAgg338
 z213:=Tryz.sizeOf338
 t232:=Tryz.underlying359
 a232:=Tryz.isAgg359
 z232:=Tryz.sizeOf359
 v232:=Tryz.zeroValue359
 t233:=Tryz.underlying360
 a233:=Tryz.isAgg360
 z233:=Tryz.sizeOf360
 v233:=Tryz.zeroValue360
 g15:=by kernel_rfl
 g16:=by kernel_rfl
 g17:=by kernel_rfl
 g18:=by kernel_rfl
 g19:=by kernel_rfl
 t80:=Tryz.underlying105
 a80:=Tryz.isAgg105
 z80:=Tryz.sizeOf105
 v80:=Tryz.zeroValue105
 i0:=by kernel_rfl
 i2:=by kernel_rfl
 i3:=by kernel_rfl
 i4:=by kernel_rfl
 i5:=by kernel_rfl
 i9:=by kernel_rfl
 i20:=by kernel_rfl
 i21:=by kernel_rfl
 i37:=by kernel_rfl
 i46:=by kernel_rfl
 i51:=by kernel_rfl
 i53:=by kernel_rfl
 i75:=by kernel_rfl
 i80:=by kernel_rfl
 i85:=by kernel_rfl
 i127:=by kernel_rfl
 i143:=by kernel_rfl
 i145:=by kernel_rfl
 i167:=by kernel_rfl
 i168:=by kernel_rfl
 i171:=by kernel_rfl
 i173:=by kernel_rfl
 i175:=by kernel_rfl
 i210:=by kernel_rfl
 i212:=by kernel_rfl
 i232:=by kernel_rfl
 i233:=by kernel_rfl
 m15:=by kernel_rfl
 m16:=by kernel_rfl
 m17:=by kernel_rfl
 m18:=by kernel_rfl
 m19:=by kernel_rfl
 c0:=by kernel_rfl
 c2:=by kernel_rfl
 c3:=by kernel_rfl
 c4:=by kernel_rfl
 c5:=by kernel_rfl
 c9:=by kernel_rfl
 c20:=by kernel_rfl
 c21:=by kernel_rfl
 c37:=by kernel_rfl
 c46:=by kernel_rfl
 c51:=by kernel_rfl
 c53:=by kernel_rfl
 c75:=by kernel_rfl
 c80:=by kernel_rfl
 c85:=by kernel_rfl
 c127:=by kernel_rfl
 c143:=by kernel_rfl
 c145:=by kernel_rfl
 c167:=by kernel_rfl
 c168:=by kernel_rfl
 c171:=by kernel_rfl
 c173:=by kernel_rfl
 c175:=by kernel_rfl
 c210:=by kernel_rfl
 c212:=by kernel_rfl
 c213:=by kernel_rfl
 c232:=by kernel_rfl
 c233:=by kernel_rfl }
open Go.RowKit in
theorem Tryz.strconv_ParseInt_10_at64_ok(s:ByteArray)(hmax:s.size<=9223372036854775806)(v:Int)(h:Lib.parseIntB 64 s.data.toList=.ok v)(w:World):
 Calls Tryz.prog 235 #[.string s,.int .i64 10,.int .i64 64] w fun e w'=>e=.returned (.tuple #[.int .i64 v,.nilIface])/\(w'=w\/ ∃t,w'=Lib.bytesWorld w 5 t):=Any.strconv_ParseInt_10_at64_ok Tryz.aG3 s hmax v h w
def Tryz.XY:Go.Shelf.Ren:=⟨fun|144=>215|143=>252|219=>282|217=>199|225=>287|224=>286|267=>301|266=>247|314=>305|n=>n,fun|9=>9|4=>4|3=>3|5=>5|46=>329|146=>357|51=>337|n=>n,fun|1=>1|n=>n⟩
theorem Tryz.lays144:Go.Proofs.Lays.n144 Tryz.prog Tryz.XY:={
 mixed:=by kernel_rfl
 f143:=Tryz.iW Tryz.func252
 f144:=Tryz.iW Tryz.func215
 f217:=Tryz.iW Tryz.func199
 f219:=Tryz.iW Tryz.func282
 f224:=Tryz.iW Tryz.func286
 f225:=Tryz.iW Tryz.func287
 f266:=Tryz.iW Tryz.func247
 f267:=Tryz.iW Tryz.func301
 f314:=Tryz.iW Tryz.func305
 t3:=Tryz.underlying3
 a3:=Tryz.isAgg3
 z3:=Tryz.sizeOf3
 v3:=Tryz.zeroValue3
 t4:=Tryz.underlying4
 a4:=Tryz.isAgg4
 z4:=Tryz.sizeOf4
 v4:=Tryz.zeroValue4
 t5:=Tryz.underlying5
 a5:=Tryz.isAgg5
 z5:=Tryz.sizeOf5
 v5:=Tryz.zeroValue5
 t9:=Tryz.underlying9
 a9:=Tryz.isAgg9
 z9:=Tryz.sizeOf9
 v9:=Tryz.zeroValue9
 t46:=Tryz.underlying329
 a46:=Tryz.isAgg329
 z46:=Tryz.sizeOf329
 v46:=Tryz.zeroValue329
 t51:=Tryz.underlying337
 a51:=Tryz.isAgg337
 z51:=Tryz.sizeOf337
 v51:=Tryz.zeroValue337
 t146:=Tryz.underlying357
 a146:=Tryz.isAgg357
 z146:=Tryz.sizeOf357
 v146:=Tryz.zeroValue357
 g1:=by kernel_rfl }
open Go.RowKit Go.Lib in
theorem Tryz.strings_Contains_one(s:ByteArray)(c:UInt8)(w:World):
 Calls Tryz.prog 215 #[.string s,.string ⟨#[c]⟩] w fun e w'=>e=.returned (.bool (decide (0<=Lib.indexByte s.data.toList c)))/\w'=w:=Any.strings_Contains_one Tryz.lays144 s c w
def Tryz.SI:Go.Shelf.Ren:=⟨fun|15=>222|20=>263|n=>n,fun|9=>9|23=>278|3=>3|4=>4|0=>0|21=>21|n=>n,fun|n=>n⟩
theorem Tryz.aG2:Go.Proofs.LaysGw.n15 Tryz.prog Tryz.SI:={
 mixed:=by kernel_rfl
 f15:=Tryz.iW Tryz.func222
 f20:=Tryz.iW Tryz.func263
 t0:=Tryz.underlying0
 a0:=Tryz.isAgg0
 z0:=Tryz.sizeOf0
 v0:=Tryz.zeroValue0
 i0:=by kernel_rfl
 t3:=Tryz.underlying3
 a3:=Tryz.isAgg3
 z3:=Tryz.sizeOf3
 v3:=Tryz.zeroValue3
 i3:=by kernel_rfl
 t4:=Tryz.underlying4
 a4:=Tryz.isAgg4
 z4:=Tryz.sizeOf4
 v4:=Tryz.zeroValue4
 i4:=by kernel_rfl
 t9:=Tryz.underlying9
 a9:=Tryz.isAgg9
 z9:=Tryz.sizeOf9
 v9:=Tryz.zeroValue9
 i9:=by kernel_rfl
 t21:=Tryz.underlying21
 a21:=Tryz.isAgg21
 z21:=Tryz.sizeOf21
 v21:=Tryz.zeroValue21
 i21:=by kernel_rfl
 t23:=Tryz.underlying278
 a23:=Tryz.isAgg278
 z23:=Tryz.sizeOf278
 v23:=Tryz.zeroValue278
 i23:=by kernel_rfl }
def Tryz.lays151_ren:Go.Shelf.Ren:=⟨fun|151=>224|152=>258|137=>160|119=>285|224=>286|225=>287|217=>199|266=>247|n=>n,fun|9=>9|21=>21|4=>4|3=>3|5=>5|0=>0|46=>329|n=>n,fun|n=>n⟩
theorem Tryz.lays151:Go.Proofs.Lays.n151 Tryz.prog Tryz.lays151_ren:={
 mixed:=by kernel_rfl
 f119:=Tryz.iW Tryz.func285
 f137:=Tryz.iW Tryz.func160
 f151:=Tryz.iW Tryz.func224
 f152:=Tryz.iW Tryz.func258
 f217:=Tryz.iW Tryz.func199
 f224:=Tryz.iW Tryz.func286
 f225:=Tryz.iW Tryz.func287
 f266:=Tryz.iW Tryz.func247
 t0:=Tryz.underlying0
 a0:=Tryz.isAgg0
 z0:=Tryz.sizeOf0
 v0:=Tryz.zeroValue0
 t3:=Tryz.underlying3
 a3:=Tryz.isAgg3
 z3:=Tryz.sizeOf3
 v3:=Tryz.zeroValue3
 t4:=Tryz.underlying4
 a4:=Tryz.isAgg4
 z4:=Tryz.sizeOf4
 v4:=Tryz.zeroValue4
 t5:=Tryz.underlying5
 a5:=Tryz.isAgg5
 z5:=Tryz.sizeOf5
 v5:=Tryz.zeroValue5
 t9:=Tryz.underlying9
 a9:=Tryz.isAgg9
 z9:=Tryz.sizeOf9
 v9:=Tryz.zeroValue9
 t21:=Tryz.underlying21
 a21:=Tryz.isAgg21
 z21:=Tryz.sizeOf21
 v21:=Tryz.zeroValue21
 t46:=Tryz.underlying329
 a46:=Tryz.isAgg329
 z46:=Tryz.sizeOf329
 v46:=Tryz.zeroValue329 }
open Go.RowKit Go.Lib in
theorem Tryz.strings_ContainsRune_ascii(s:ByteArray)(r:Int)(w:World)(h0:0<=r)(h1:r<128):
 Calls Tryz.prog 224 #[.string s,.int .i32 r] w fun e w'=>e=.returned (.bool (decide (0<=Lib.indexByte s.data.toList r.toNat.toUInt8)))/\w'=w:=Any.strings_ContainsRune_ascii Tryz.lays151 s r w h0 h1
def Tryz.XV:Go.Shelf.Ren:=⟨fun|264=>274|n=>n,fun|53=>311|46=>329|n=>n,fun|n=>n⟩
theorem Tryz.lays264:Go.Proofs.Lays.n264 Tryz.prog Tryz.XV:={
 mixed:=by kernel_rfl
 f264:=Tryz.iW Tryz.func274
 t46:=Tryz.underlying329
 a46:=Tryz.isAgg329
 z46:=Tryz.sizeOf329
 v46:=Tryz.zeroValue329
 t53:=Tryz.underlying311
 a53:=Tryz.isAgg311
 z53:=Tryz.sizeOf311
 v53:=Tryz.zeroValue311 }
open Go.RowKit Go.Lib in
theorem Tryz.bits_Mul64(x y:Nat)(hx:x<18446744073709551616)(hy:y<18446744073709551616)(w:World):
 Calls Tryz.prog 274 #[.int .u64 x,.int .u64 y] w fun e w'=>e=.returned (.tuple #[.int .u64 ((x * y / 18446744073709551616:Nat):Int),.int .u64 ((x * y % 18446744073709551616:Nat):Int)])/\w'=w:=Any.bits_Mul64 Tryz.lays264 x y hx hy w
open Go.RowKit Go.Lib in
theorem Tryz.strings_IndexFunc_grows(g:Nat)(lb:Array Value)(eg: ∀args w,(callFunc g args).run Tryz.prog w=.ok (.enter g args) w)(p:Nat->Bool)(s:ByteArray)(w:World)(hp:PredGrows Tryz.prog g lb p w):
 Calls Tryz.prog 222 #[.string s,.func (.func g) #[] lb] w fun e w'=>e=.returned (.int .i64 (Lib.idxFunc p true s))/\Below w.heap.size w w':=Any.strings_IndexFunc_grows Tryz.aG2 g lb eg p s w hp
end Go.Proofs
namespace Go.Proofs.YtebgcnnhokclaaaGreatDoor
noncomputable section
open Go.Proofs.Tryz
section
open Go.RowKit
theorem zK(n:Int)(w:World):Calls prog 169 #[.int .i64 n] w fun r w'=>r=.returned (.int .i64 (if 21<=n/\n<=41 then 0 else 7))/\w=w':=by
 by_cases a:n<21
 . go_enter func169,ntmps169
   go_wp2
   go_ret;exact⟨by first|rfl|exact ri (by rw[aEg (by omega)]),rfl⟩
 by_cases b:42<=n
 . go_enter func169,ntmps169
   go_wp2
   go_ret;exact⟨by first|rfl|exact ri (by rw[aEg (by omega)]),rfl⟩
 go_enter func169,ntmps169
 go_wp2
 go_ret;exact⟨by first|rfl|exact ri (by rw[aEo (by omega)]),rfl⟩
theorem SG(a b c n:Int)(w:World)(a0:0<=a)(b0:0<=b)(c0:0<=c)(n0:1<=n)(n1:n<=3):
 Calls prog 123 #[.agg #[.int .u8 a,.int .u8 b,.int .u8 c],.int .i64 n] w fun r w'=>r=.returned (.int .i64 (jR a b c n))/\Below w.heap.size w w':=by
 obtain rfl|rfl|rfl:n=1\/n=2\/n=3:=by omega
 . exact UU (aIR a b c w) (by unfold jR;simp only[aO9,aEZ,aI3];(repeat' split)<;>first|rfl|(exfalso;omega))
 . exact UU (aIQ a b c w) (by unfold jR;simp only[aO9,aEZ,aI3];(repeat' split)<;>first|rfl|(exfalso;omega))
 exact UU (aIP a b c w) (by unfold jR;simp only[aO9,aEZ,aI3];(repeat' split)<;>first|rfl|(exfalso;omega))
theorem PV(n:Nat)(w:World)(h:n<=18):Calls prog 236 #[.int .i64 n] w fun r w'=>r=.returned (.tuple #[.int .i64 (p10 n),.int .i64 0])/\w=w':=by
 go_enter func236,ntmps236
 go_wp2
 go_loop [4,10] (fun p i=> ∃k:Nat,k<=n/\i=.int .i64 k/\p=.int .i64 (p10 k)) (fun _ i=>n - (intOf i).toNat)
 case atStart=>exact⟨0,aLp _,rfl,rfl⟩
 case round=>
  obtain⟨k,hk,rfl,rfl⟩:=hrel;by_cases hlt:k<n
  . have hb:=aFP (k+1) (by omega);have hs:=WM k;have hb2:p10 k * 10<=1000000000000000000/\1<=p10 k * 10:=by rw[<-hs];omega
    have HS:=aAC hs;clear hs hb
    go_wp2
    go_round
    case rel=>exact⟨k+1,by omega,by go_num,by rw[HS.out]⟩
    case measure=>simp[intOf];omega
  have e:k=n:=by omega
  subst e
  go_wp2
  go_ret2;exact⟨rfl,rfl⟩
end
section
open Go.RowKit Go.Lib
theorem below_drewN{B:Nat}{w W:World}(h:Below B w W): ∀n,Below B w (W.drewN n)
 |0=>h
 |n+1=>(below_drewN h n).drew
def Asc(s:ByteArray):Prop:= ∀i (h:i<s.size),(s[i]'h).toNat<128
theorem S9(l:List UInt8)(c:UInt8)(h: ∀b ∈ l,b.toNat<128)(hc:128<=c.toNat):Lib.indexByte l c= -1:=by
 induction l with
 |nil=>rfl
 | cons b l ih=>
  have hb:=h b (aIC ..);have hne:(b==c)=false:=by
   rw[aEB];rintro rfl;omega
  unfold Lib.indexByte;rw[ih (fun x hx=>h x (aKO _ hx)),hne]
  rfl
theorem ZG{s:ByteArray}(hs:Asc s)(a b:Nat): ∀x ∈ (s.extract a b).data.toList,x.toNat<128:=by
 intro x hx;have h1:x ∈ s.data.toList:=by
  rw[aYx,Array.toList_extract]at hx;unfold List.extract at hx;exact aT4 (aT3 hx)
 obtain⟨i,hi,rfl⟩:=aPo h1;have:=hs i (by simpa using hi);rwa[aUi]at this
theorem YK(r:Int)(e2:2<=(Utf8.encode r).size)(eb:128<=((Utf8.encode r)[(Utf8.encode r).size - 1]'(by omega)).toNat): ∀k (h:k<(Utf8.encode r).size),k+1=(Utf8.encode r).size->128<=((Utf8.encode r)[k]'h).toNat:=by
 intro k h e;have hk:k=(Utf8.encode r).size - 1:=by omega
 subst hk;exact eb
theorem OV(s:ByteArray)(hs:Asc s)(h5:s.size<=1000)(w:World):
 Calls prog 258 #[.string s,.int .i32 65533] w fun e w'=>e=.returned (.int .i64 (-1))/\Below w.heap.size w w':=by
 have HS:=aAC hs;clear hs;go_enter func258,ntmps258
 go_wp2
 go_loopg [] s.size (fun gf wx=> ∃pos:Nat,wx.heap[w.heap.size]? =some (.stringIter s pos)/\Below w.heap.size w wx/\s.size<=pos+gf)
 case atStart=>exact⟨0,World.iter_heap w s 0,(aDA _ w).alloc (aC4 _) _,by omega⟩
 case round=>
  obtain⟨pos,hit,hbw,hfu⟩:=hrel;by_cases hps:pos<s.size
  . obtain⟨g',rfl⟩: ∃g',gk=g'+1:=⟨gk - 1,by omega⟩;have hnx: ∀ty,(Instr.next (.pointer (some ⟨w.heap.size,0,none⟩)) true ty).run prog wr=_:=fun ty=>Lib.run_next_any_at wr w.heap.size s pos ty hit hps;have hde:=aXX s pos hps (HS.out pos hps);have hlt:=HS.out pos hps;rw[hde]at hnx;generalize (s[pos]'hps).toNat=R at hnx hlt hde;have hit2:=Lib.iterAt_heap wr w.heap.size s pos (pos+1) hit;have hbw2:=Lib.below_iterAt hbw (k:=w.heap.size) (aC4 _) s (pos+1);clear hde
    go_wp2
    go_roundg g'
    case measure=>omega
    case rel=>exact⟨pos+1,hit2,hbw2,by omega⟩
  have hnx: ∀ty,(Instr.next (.pointer (some ⟨w.heap.size,0,none⟩)) true ty).run prog wr=_:=fun ty=>Lib.run_next_end_at wr w.heap.size s pos ty hit hps
  go_wp2
  go_ret;exact⟨rfl,hbw⟩
theorem SY (s:ByteArray) (hs:Asc s) (h4:4<=s.size) (h5:s.size<=1000) (r:Int) (h0:128<=r) (h1:r<=1114111) (w:World):
 Calls prog 258 #[.string s,.int .i32 r] w fun e w'=>e=.returned (.int .i64 (-1))/\Below w.heap.size w w':=by
 by_cases hr:r=65533
 . subst hr;exact OV s hs h5 w
 have HV:=fun w=>(utf8_ValidRune r w).mono (fun _ _ h=>(⟨h.1,h.2.symm⟩:_/\w=_));cases hv:Lib.validRune r
 . rw[hv]at HV;replace HV:=aAC HV;clear hv hs;go_enter func258,ntmps258
   go_wp2_with (go_at_call 285;with_reducible refine(HV.out _).mono ?_;rintro _ w' ⟨rfl,rfl⟩)
   go_ret;exact⟨rfl,aDA _ _⟩
 rw [hv]at HV;replace HV:=aAC HV;have hv2:Utf8.valid r=true:=by
  unfold Lib.validRune at hv;have:=aEF hv;unfold Utf8.valid;simp;omega
 obtain⟨e2,e4,eb⟩:=encode_facts r hv2 h0;have eb:=eb (by omega);have HB: ∀(t:ByteArray) (c:UInt8) (w:World),(∀b ∈ t.data.toList,b.toNat<128)->128<=c.toNat->Calls prog 160 #[.string t,.int .u8 c.toNat] w fun e w'=>e=.returned (.int .i64 (-1))/\w=w':=by
  intro t c w h hc;have:=strings_IndexByte t (c.toNat:Int) w;rw[show ((c.toNat:Int)).toNat.toUInt8=c by rw[aOd];exact UInt8.ofNat_toNat]at this;rw[S9 _ _ h hc]at this;exact this.mono (fun _ _ h=>⟨h.1,h.2.symm⟩)
 replace HB:=aAC HB;clear hv hv2;have hasc:=hs;have HX: ∀k:Nat,∀b ∈ (s.extract k s.size).data.toList,b.toNat<128:=fun k=>ZG hs k s.size;replace HX:=aAC HX;have l1:1<s.size:=by omega
 have l2:2<s.size:=by omega
 have l3:3<s.size:=by omega
 have g1:=hs 1 l1;have g2:=hs 2 l2;have g3:=hs 3 l3;have HE:=aAC (YK r e2 eb);clear hasc hs;obtain ha|ha|ha:(Utf8.encode r).size=2\/(Utf8.encode r).size=3\/(Utf8.encode r).size=4:=by omega
 . have hk:1<(Utf8.encode r).size:=by omega
   have hlast:128<=((Utf8.encode r)[1]'hk).toNat:=HE.out 1 hk (by omega);clear HE e2 e4 eb;go_enter func258,ntmps258
   go_wp2_with (go_at_call 285;with_reducible refine(HV.out _).mono ?_;rintro _ w' ⟨rfl,rfl⟩)
   go_step3
   go_wp2
   go_loopw [9,10] (fun s9 s10 wx=>s9=.int .i64 1/\s10=.int .i64 0/\wx=w) (fun _ _ _=>1)
   case atStart=>exact⟨by first|rfl|rw[ha],rfl,rfl⟩
   case round=>
    obtain⟨rfl,rfl,rfl⟩:=hrel;have hne:(((s[1]'l1).toNat:Int) !=(((Utf8.encode r)[1]'hk).toNat:Int))=true:=by rw[aRp];omega
    go_wp2
    go_step3
    go_wp2
    go_quiet (fail)
    go_wp2
    go_quiet ((go_at_call 160;(refine(HB.out _ _ _ (HX.out _) hlast).mono ?_);rintro e w' ⟨rfl,rfl⟩;exact⟨rfl,_,rfl⟩))
    go_wp2
    rw[aR5]
    go_wp2
    rw[aR5];go_ret;exact⟨rfl,below_drewN (aDA _ _) _⟩
 . have hk:2<(Utf8.encode r).size:=by omega
   have hlast:128<=((Utf8.encode r)[2]'hk).toNat:=HE.out 2 hk (by omega);clear HE e2 e4 eb;go_enter func258,ntmps258
   go_wp2_with (go_at_call 285;with_reducible refine(HV.out _).mono ?_;rintro _ w' ⟨rfl,rfl⟩)
   go_step3
   go_wp2
   go_loopw [9,10] (fun s9 s10 wx=>s9=.int .i64 2/\s10=.int .i64 0/\wx=w) (fun _ _ _=>1)
   case atStart=>exact⟨by first|rfl|rw[ha],rfl,rfl⟩
   case round=>
    obtain⟨rfl,rfl,rfl⟩:=hrel;have hne:(((s[2]'l2).toNat:Int) !=(((Utf8.encode r)[2]'hk).toNat:Int))=true:=by rw[aRp];omega
    go_wp2
    go_step3
    go_wp2
    go_quiet (fail)
    go_wp2
    go_quiet ((go_at_call 160;(refine(HB.out _ _ _ (HX.out _) hlast).mono ?_);rintro e w' ⟨rfl,rfl⟩;exact⟨rfl,_,rfl⟩))
    go_wp2
    rw[aR5]
    go_wp2
    rw[aR5];go_ret;exact⟨rfl,below_drewN (aDA _ _) _⟩
 have hk:3<(Utf8.encode r).size:=by omega
 have hlast:128<=((Utf8.encode r)[3]'hk).toNat:=HE.out 3 hk (by omega);clear HE e2 e4 eb;go_enter func258,ntmps258
 go_wp2_with (go_at_call 285;with_reducible refine(HV.out _).mono ?_;rintro _ w' ⟨rfl,rfl⟩)
 go_step3
 go_wp2
 go_loopw [9,10] (fun s9 s10 wx=>s9=.int .i64 3/\s10=.int .i64 0/\wx=w) (fun _ _ _=>1)
 case atStart=>exact⟨by first|rfl|rw[ha],rfl,rfl⟩
 case round=>
  obtain⟨rfl,rfl,rfl⟩:=hrel;have hne:(((s[3]'l3).toNat:Int) !=(((Utf8.encode r)[3]'hk).toNat:Int))=true:=by rw[aRp];omega
  go_wp2
  go_step3
  go_wp2
  go_quiet (fail)
  go_wp2
  go_quiet ((go_at_call 160;(refine(HB.out _ _ _ (HX.out _) hlast).mono ?_);rintro e w' ⟨rfl,rfl⟩;exact⟨rfl,_,rfl⟩))
  go_wp2
  rw[aR5]
  go_wp2
  rw[aR5];go_ret;exact⟨rfl,below_drewN (aDA _ _) _⟩
theorem OW(l:List UInt8)(c:UInt8):(-1<=Lib.indexByte l c)/\(decide (0<=Lib.indexByte l c)=l.any fun b=>decide ((b.toNat:Int)=(c.toNat:Int))):=by
 induction l with
 |nil=>exact⟨aU2 (-1),rfl⟩
 |cons b l ih=>
  obtain⟨i1,i2⟩:=ih;unfold Lib.indexByte;rw[aXL,<-i2];by_cases h:b=c
  . subst h;simp
  have hne:(b==c)=false:=by rw[aEB];exact h
  have hn: ¬((b.toNat:Int)=(c.toNat:Int)):=by
   intro e;exact h (aX9.1 (by omega))
  rw[hne,aBW hn,aVb];simp only[aMB,aPv];by_cases h2:Lib.indexByte l c= -1
  . rw[h2];simp
  have:(Lib.indexByte l c== -1)=false:=by rw[aEB];exact h2
  rw[this];simp only[aMB,aPv];refine⟨by omega,?_⟩;rw[aPg,aNF,aNF];omega
theorem sD(s:ByteArray)(c:UInt8):decide (0<=Lib.indexByte s.data.toList c)=hasB c.toNat s:=(OW _ _).2
theorem FP(s:ByteArray)(hs:Asc s)(h4:4<=s.size)(h5:s.size<=1000)(r:Nat)(h1:r<=1114111)(w:World):
 Calls prog 224 #[.string s,.int .i32 r] w fun e w'=>e=.returned (.bool (decide (r<128)&&hasB r s))/\Below w.heap.size w w':=by
 by_cases h:r<128
 . refine(strings_ContainsRune_ascii s r w (by omega) (by omega)).mono ?_;rintro e w' ⟨rfl,rfl⟩;refine⟨?_,aDA _ _⟩;rw[sD,aDx h,aO8,aOd];have:((r.toUInt8).toNat:Int)=(r:Int):=by simp;omega
   rw[this]
 have HI:=aAC (fun w=>SY s hs h4 h5 r (by omega) (by omega) w);rw[aBW h,aPd];clear hs;go_enter func224,ntmps224
 go_wp2_with (go_at_call 258;with_reducible refine(HI.out _).mono ?_;rintro _ w' ⟨rfl,hb⟩)
 go_ret;exact⟨rfl,hb⟩
theorem aDH(s:ByteArray)(hs:Asc s)(h4:4<=s.size)(h5:s.size<=1000)(B:Nat)(w:World)(hB:B<w.heap.size)(hcell:w.cell? ⟨B,0,none⟩=some (.string s)):
 PredGrows prog 223 #[.pointer (some ⟨B,0,none⟩)] (fun x=> !(decide (x<128)&&hasB x s)) w:=fun W x hx hb=>by
 have hc:W.cell? ⟨B,0,none⟩=some (.string s):=(hb.cell (p:=⟨B,0,none⟩) hB).trans hcell;have HC:=aAC (fun w=>FP s hs h4 h5 x hx w);clear hs hb hcell;obtain⟨t,ht⟩: ∃t,t=(decide (x<128)&&hasB x s):=⟨_,rfl⟩;rw[<-ht]at HC;replace ht:=aAC ht;show Calls prog 223 #[.int .i32 x,.pointer (some ⟨B,0,none⟩)] W _;go_enter func223,ntmps223
 go_wp2_with (go_at_call 224;with_reducible refine(HC.out _).mono ?_;rintro _ w' ⟨rfl,hb⟩)
 go_ret;exact⟨by rw[<-ht.out];rfl,hb⟩
theorem WU(s set:ByteArray)(q:Int->Bool)(hs:Asc set)(h4:4<=set.size)(h5:set.size<=1000)(hq: ∀x:Nat,x<128->hasB x set=q x)(hq2: ∀x:Int,q x=true->x<128)(w:World):
 Calls prog 172 #[.string s,.string set] w fun r w'=>r=.returned (.bool (aYP q s))/\Below w.heap.size w w':=by
 have eg: ∀args w,(callFunc 223 args).run prog w=.ok (.enter 223 args) w:=enters_of func223 (by kernel_rfl) rfl;have hcon:=strings_IndexFunc_grows 223 #[.pointer (some ⟨w.heap.size,0,none⟩)] eg _ s (w.alloc (.cells #[.string set] 9)) (aDH set hs h4 h5 w.heap.size _ (by simp) (by simp));have hi:=aHb q (fun x=> !(decide (x<128)&&hasB x set)) (by intro x hx;rw[aDx hx,aO8,hq x hx]) (by intro x hx;rw[aBW (by omega),aPd];rfl) hq2 s;rw[<-hi];generalize Lib.idxFunc (fun x=> !(decide (x<128)&&hasB x set)) true s=z at hcon ⊢;clear hi hs hq hq2;go_enter func172,ntmps172
 go_wp2_with (go_at_call 222;refine hcon.mono ?_;rintro _ w' ⟨rfl,hb⟩)
 go_ret;exact⟨rfl,aYR (ba (aDA _ _) _) hb⟩
def DV:ByteArray:=⟨#[48,49,50,51,52,53,54,55,56,57]⟩
def VB:ByteArray:=⟨#[88,48,49,50,51,52,53,54,55,56,57]⟩
theorem aHR:Asc DV:=by unfold Asc;decide
theorem aC3:Asc VB:=by unfold Asc;decide
theorem aHQ: ∀x:Nat,x<128->hasB x DV=bY x:=by decide
theorem aC2: ∀x:Nat,x<128->hasB x VB=dW x:=by decide
theorem WV(s:ByteArray)(w:World):Calls prog 172 #[.string s,.string DV] w fun r w'=>r=.returned (.bool (aYP bY s))/\Below w.heap.size w w':=
 WU s DV bY aHR (by decide) (by decide) aHQ (by intro x h;unfold bY at h;have:=aEF h;omega) w
theorem aDI(s:ByteArray)(w:World):Calls prog 172 #[.string s,.string VB] w fun r w'=>r=.returned (.bool (aYP dW s))/\Below w.heap.size w w':=
 WU s VB dW aC3 (by decide) (by decide) aC2 (by intro x h;unfold dW at h;simp at h;omega) w
end
section
open Go.RowKit
theorem size_pos(n:Int)(w:World)(h0:0<=n)(h1:n<9223372036854775808):Calls prog 275 #[.int .i64 n] w fun r w'=>r=.returned (.int .u64 n)/\w=w':=by
 go_enter func275,ntmps275
 go_wp2
 go_ret;exact⟨ri (by omega),rfl⟩
theorem aAk(n:Int)(w:World)(h0:0<=n)(h1:n<18446744073709551616):Calls prog 276 #[.int .u64 n,.bool false] w fun r w'=>r=.returned (.tuple #[.int .i64 (if n<=9223372036854775807 then n else 0),.int .i64 (if n<=9223372036854775807 then 0 else 15)])/\w=w':=by
 by_cases c:n<=9223372036854775807
 . rw[aEo c,aEo c];go_enter func276,ntmps276
   go_wp2
   go_ret2;exact⟨dH (by omega) rfl,rfl⟩
 rw[aEg c,aEg c];go_enter func276,ntmps276
 go_wp2
 go_ret2;exact⟨rfl,rfl⟩
def mulC(a b:Int):Int × Int:=if a * b<=9223372036854775807 then(a * b,0)else(0,15)
theorem mul_any(a b:Int)(w:World)(a0:0<=a)(a1:a<9223372036854775808)(b0:0<=b)(b1:b<9223372036854775808):
 Calls prog 237 #[.int .i64 a,.int .i64 b] w fun r w'=>r=.returned (.tuple #[.int .i64 (mulC a b).1,.int .i64 (mulC a b).2])/\Below w.heap.size w w':=by
 have HA:=aAC (fun w=>size_pos a w a0 a1);have HB:=aAC (fun w=>size_pos b w b0 b1);have HM: ∀W,Calls prog 274 #[.int .u64 a,.int .u64 b] W fun e w'=>e=.returned (.tuple #[.int .u64 (a * b / 18446744073709551616),.int .u64 (a * b % 18446744073709551616)])/\w'=W:=by
  intro W;have:=bits_Mul64 a.toNat b.toNat (by omega) (by omega) W;rw[show ((a.toNat:Nat):Int)=a by omega,show((b.toNat:Nat):Int)=b by omega]at this;have e:((a.toNat * b.toNat:Nat):Int)=a * b:=by rw[Int.natCast_mul,show((a.toNat:Nat):Int)=a by omega,show((b.toNat:Nat):Int)=b by omega]
  rw[Int.natCast_ediv,Int.natCast_emod,e]at this;exact this
 have m0:0<=a * b:=aYj a0 b0;have m1:a * b<9223372036854775808 * 9223372036854775808:=by
  have h1:=Int.mul_le_mul_of_nonneg_left (show b<=9223372036854775807 by omega) a0;omega
 unfold mulC;generalize a * b=m at *;obtain⟨hi,hhi⟩: ∃h,h=m / 18446744073709551616:=⟨_,rfl⟩;obtain⟨lo,hlo⟩: ∃h,h=m % 18446744073709551616:=⟨_,rfl⟩;rw[<-hhi,<-hlo]at HM;have k0:0<=hi:=by omega
 have k1:hi<18446744073709551616:=by omega
 have k2:0<=lo:=by omega
 have k3:lo<18446744073709551616:=by omega
 have HS:=aAC (fun w=>aAk lo w k2 k3);have E:=aAC (show m=hi * 18446744073709551616+lo by omega);replace HM:=aAC HM;clear hhi hlo m1;by_cases c:0<hi
 . have hno: ¬m<=9223372036854775807:=by have:=E.out;omega
   simp only[aEg hno];clear hno;go_enter func237,ntmps237
   go_wp2_with (first|(go_at_call 275;(first|with_reducible refine(HA.out _).mono ?_|with_reducible refine(HB.out _).mono ?_);rintro _ w' ⟨rfl,rfl⟩)|(go_at_call 274;with_reducible refine(HM.out _).mono ?_;rintro _ w' ⟨rfl,rfl⟩))
   go_ret2;exact⟨rfl,ba (aDA _ _) _⟩
 have e:hi=0:=by omega
 subst e;have hm:m=lo:=by have:=E.out;omega
 subst hm;clear E;by_cases c:m<=9223372036854775807
 all_goals
  first|simp only[aEo c]at HS ⊢ |simp only[aEg c]at HS ⊢
  clear c;have na:decide (a<0)=false:=aBW (by omega);have nb:decide (b<0)=false:=aBW (by omega);go_enter func237,ntmps237
  go_wp2_with (first|(go_at_call 275;(first|with_reducible refine(HA.out _).mono ?_|with_reducible refine(HB.out _).mono ?_);rintro _ w' ⟨rfl,rfl⟩)|(go_at_call 274;with_reducible refine(HM.out _).mono ?_;rintro _ w' ⟨rfl,rfl⟩)|(go_at_call 276;with_reducible refine(HS.out _).mono ?_;rintro _ w' ⟨rfl,rfl⟩))
  go_ret2;exact⟨rfl,ba (aDA _ _) _⟩
end
section
theorem LX(s:ByteArray):s.toList.length=s.size:=by rw[aUF];simp
theorem TW{s:ByteArray}(h:s.size=0):s.toList.isEmpty=true:=by
 have:=LX s;rw[List.isEmpty_iff,<-aO5];omega
theorem MV{s:ByteArray}(h: ¬s.size=0):s.toList.isEmpty=false:=by
 have:=LX s;cases e:s.toList.isEmpty
 . rfl
 rw[List.isEmpty_iff]at e;rw[e]at this;simp at this;omega
theorem lC(s:ByteArray):(s.size=0/\s.toList.isEmpty=true)\/(¬s.size=0/\s.toList.isEmpty=false):=by
 by_cases h:s.size=0
 . exact .inl ⟨h,TW h⟩
 exact .inr ⟨h,MV h⟩
theorem aKX(s:ByteArray):s.toList.isEmpty=decide (s.size=0):=by
 rcases lC s with⟨h,e⟩|⟨h,e⟩
 . rw[e,aDx h]
 rw[e,aBW h]
end
section
open Go.RowKit Go.Lib
theorem NC{s:ByteArray}(h:aYP dW s=true)(i:Nat)(hi:i<s.size):fE s i=88\/(48<=fE s i/\fE s i<=57):=by
 have:=(kU _ _).1 h i hi;unfold dW at this;simp at this;omega
theorem EW{s:ByteArray}(h4:s.size=4)(h:aYP dW s=true):MOk (fE s):=fun i hi=>NC h i (by omega)
theorem uS(s:ByteArray)(w:World)(h4:s.size=4)(hx:aYP dW s=true):
 Calls prog 268 #[.string s] w fun r w'=>r=.returned (.int .i64 0)/\Below w.heap.size w w':=by
 have HS:=aAC (fun(i:Nat) (hi:i<s.size)=>NC hx i hi);have H4:=aAC h4;have l1: ¬(18:Int)<s.size:=by omega
 have l2: ¬s.size=0:=by omega
 have l3:0<s.size:=by omega
 have l4:=MV l2;clear hx h4;go_enter func268,ntmps268
 go_wp2
 go_loopg [] s.size (fun gf wx=> ∃pos:Nat,wx.heap[w.heap.size]? =some (.stringIter s pos)/\Below w.heap.size w wx/\s.size<=pos+gf)
 case atStart=>exact⟨0,World.iter_heap w s 0,(aDA _ w).alloc (aC4 _) _,by omega⟩
 case round=>
  obtain⟨pos,hit,hbw,hfu⟩:=hrel;by_cases hps:pos<s.size
  . obtain⟨g',rfl⟩: ∃g',gk=g'+1:=⟨gk - 1,by omega⟩;have hbd:=HS.out pos hps;rw[dJ s pos hps]at hbd;have hnx: ∀ty,(Instr.next (.pointer (some ⟨w.heap.size,0,none⟩)) true ty).run prog wr=_:=fun ty=>Lib.run_next_any_at wr w.heap.size s pos ty hit hps;have hde:=aXX s pos hps (by omega);rw[hde]at hnx;generalize (s[pos]'hps).toNat=R at hnx hbd hde;have hit2:=Lib.iterAt_heap wr w.heap.size s pos (pos+1) hit;have hbw2:=Lib.below_iterAt hbw (k:=w.heap.size) (aC4 _) s (pos+1);clear hde;rcases hbd with h|⟨h1,h2⟩
    . have h:R=88:=by omega
      subst h
      go_wp2
      go_roundg g'
      case measure=>omega
      case rel=>exact⟨pos+1,hit2,hbw2,by omega⟩
    have e1:((R:Int)==88)=false:=by rw[aEB];omega
    have e2:((R:Int) !=88)=true:=by rw[aRp];omega
    have e3: ¬(R:Int)<48:=by omega
    have e4: ¬(57:Int)<R:=by omega
    go_wp2
    go_roundg g'
    case measure=>omega
    case rel=>exact⟨pos+1,hit2,hbw2,by omega⟩
  have hnx: ∀ty,(Instr.next (.pointer (some ⟨w.heap.size,0,none⟩)) true ty).run prog wr=_:=fun ty=>Lib.run_next_end_at wr w.heap.size s pos ty hit hps
  go_wp2
  go_ret;exact⟨rfl,hbw⟩
theorem aDw(n:Nat)(w:World)(h:n<=18):Calls prog 296 #[.int .i64 n] w fun r w'=>r=.returned (.int .i64 (p10 n))/\w=w':=by
 have HT:=aAC (fun w=>PV n w h);generalize p10 n=p at *;go_enter func296,ntmps296
 go_wp2_with (go_at_call 236;with_reducible refine(HT.out _).mono ?_;rintro _ w' ⟨rfl,rfl⟩)
 go_ret;exact⟨rfl,rfl⟩
theorem uI(s:ByteArray)(n:Int)(w:World)(h4:s.size=4):
 Calls prog 270 #[.string s,.int .i64 n] w fun r w'=>r=.returned (.bool (decide (0<=n)&&decide (n<10000)))/\w=w':=by
 have HP:Hid (∀w:World,Calls prog 296 #[.int .i64 s.size] w fun r w'=>r=.returned (.int .i64 10000)/\w=w'):=aAC (by
  intro w;have:=aDw 4 w (by omega);rw[h4];exact this)
 clear h4;by_cases c:0<=n<;>by_cases c2:n<10000
 all_goals
  go_enter func270,ntmps270
  go_wp2_with (go_at_call 296;with_reducible refine(HP.out _).mono ?_;rintro _ w' ⟨rfl,rfl⟩)
  go_ret;exact⟨rb (by simp[c,c2]),rfl⟩
def aYX(o:Nat->Int):Nat->Int
 |0=>0
 |k+1=>10 * aYX o k+(o k - 48)
theorem pv4(o:Nat->Int):aYX o 4=gI o:=by unfold gI;simp only[aYX];omega
theorem aRK{o:Nat->Int}(h: ∀i,i<4->48<=o i/\o i<=57)(k:Nat)(hk:k<=4):0<=aYX o k/\aYX o k<=9999:=by
 have a0:=h 0 (by omega);have a1:=h 1 (by omega);have a2:=h 2 (by omega);have a3:=h 3 (by omega);obtain rfl|rfl|rfl|rfl|rfl:k=0\/k=1\/k=2\/k=3\/k=4:=by omega
 all_goals simp only[aYX];omega
theorem Y4(w:World)(s:ByteArray)(cap:Nat)(T:TypeId)(m:Nat × Nat)(i:Nat)(h:i<s.size):(w.drew.alloc (.cells (bytesRow s cap) T m)).cell? ⟨w.heap.size,i,none⟩=some (.int .u8 ((s[i]'h).toNat:Int)):=by
 have:=World.cell?_alloc_mark w.drew (bytesRow s cap) T m i;rw[show w.drew.heap.size=w.heap.size from rfl]at this;rw[this,bytesRow_at s cap i h]
 rfl
theorem aBs(w:World)(s:ByteArray): ∃(cap:Nat) (W1:World),(convert 9 90 (.string s)).run prog w=.ok (.slice (some ⟨w.heap.size,0,none⟩) s.size cap) W1/\(∀i (h:i<s.size),W1.cell? ⟨w.heap.size,i,none⟩=some (.int .u8 ((s[i]'h).toNat:Int)))/\Below w.heap.size w W1:=
 ⟨_,_,run_bytes_of_string (P:=prog) w 9 90 5 s underlying9 underlying90 underlying5,fun i h=>Y4 w s _ _ _ i h,ba (aDA _ _).drew _⟩
theorem BA(s:ByteArray)(x:Int)(o:Nat->Int)(w:World)(h4:s.size=4)(ho: ∀i,i<4->o i=if fE s i=88 then x else fE s i)(hd: ∀i,i<4->48<=o i/\o i<=57):
 Calls prog 295 #[.string s,.int .u8 x] w fun r w'=>r=.returned (.int .i64 (gI o))/\Below w.heap.size w w':=by
 obtain⟨cap,W1,hcv,hC,hB⟩:=aBs w s;have HC:=aAC hC;clear hC;have HO:=aAC ho;have HD:=aAC hd;have HP:=aAC (fun k hk=>aRK hd k hk);clear ho hd;have H4:=aAC h4;have l4:(s.size:Int)=4:=by omega
 replace l4:=aAC l4;clear h4;go_enter func295,ntmps295
 go_wp2
 clear hcv
 go_loop [5,11] (fun n i=> ∃k:Nat,k<=s.size/\i=.int .i64 k/\n=.int .i64 (aYX o k)) (fun _ i=>s.size - (intOf i).toNat)
 case atStart=>exact⟨0,aLp _,rfl,rfl⟩
 case round=>
  obtain⟨k,hk,rfl,rfl⟩:=hrel;have p0:=HP.out k (by have:=H4.out;omega);by_cases hlt:k<s.size
  . have k4:k<4:=by have:=H4.out;omega
    have hc:=HC.out k hlt;have ho:=HO.out k k4;have hd:=HD.out k k4;rw[dJ s k hlt]at ho;have p1:=HP.out (k+1) (by omega);have hs:aYX o (k+1)=10 * aYX o k+(o k - 48):=rfl;by_cases c:((s[k]'hlt).toNat:Int)=88
    . rw[aEo c]at ho;have HS:=aAC hs;have HO2:=aAC ho;rw[hs,ho]at p1;rw[ho]at hd;have cb:(((s[k]'hlt).toNat:Int)==88)=true:=by rw[c];rfl
      clear hs ho c;obtain⟨d0,d1⟩:=hd
      go_wp2
      go_round
      case rel=>exact⟨k+1,by omega,by go_num,by rw[HS.out,HO2.out]⟩
      case measure=>simp[intOf];omega
    rw[aEg c]at ho;have HS:=aAC hs;have HO2:=aAC ho;rw[hs,ho]at p1;rw[ho]at hd;have cb:(((s[k]'hlt).toNat:Int)==88)=false:=by rw[aEB];exact c
    clear hs ho c;obtain⟨d0,d1⟩:=hd
    go_wp2
    go_round
    case rel=>exact⟨k+1,by omega,by go_num,by rw[HS.out,HO2.out]⟩
    case measure=>simp[intOf];omega
  have e:k=4:=by have:=H4.out;omega
  subst e
  go_wp2
  go_ret;exact⟨ri (pv4 o),hB⟩
def QD(o:Nat->Int):Value:=.agg #[.int .u8 (o 0),.int .u8 (o 1),.int .u8 (o 2),.int .u8 (o 3),.int .u8 (o 4),.int .u8 (o 5),.int .u8 (o 6),.int .u8 (o 7),.int .u8 (o 8),.int .u8 (o 9),.int .u8 (o 10),.int .u8 (o 11),.int .u8 (o 12),.int .u8 (o 13),.int .u8 (o 14),.int .u8 (o 15),.int .u8 (o 16),.int .u8 (o 17)]
def UH(o:Nat->Int):Array Value:= #[.int .u8 (o 0),.int .u8 (o 1),.int .u8 (o 2),.int .u8 (o 3),.int .u8 (o 4),.int .u8 (o 5),.int .u8 (o 6),.int .u8 (o 7),.int .u8 (o 8),.int .u8 (o 9),.int .u8 (o 10),.int .u8 (o 11),.int .u8 (o 12),.int .u8 (o 13),.int .u8 (o 14),.int .u8 (o 15),.int .u8 (o 16),.int .u8 (o 17)]
def Dn(n:Int)(i:Nat):Int:=if i<4 then 48+dg n i else 0
structure Ar(p:Nat)(o:Nat->Int)(w W:World):Prop where
 cell: ∀i,i<18->W.cell? ⟨p,i,none⟩=some (.int .u8 (o i))
 free: ∀i,i<18->W.frozen? ⟨p,i,none⟩=false
 new:w.heap.size<=p
 below:Below w.heap.size w W
theorem Ar.later{p:Nat}{o:Nat->Int}{w W W2:World}(h:Ar p o w W)(hb:Below W.heap.size W W2):Ar p o w W2:=
 have hl:=aO4 _ _ (h.cell 0 (by omega))
 ⟨fun i hi=>(hb.cell (p:=⟨p,i,none⟩) hl).trans (h.cell i hi),fun i hi=>(hb.frozen (p:=⟨p,i,none⟩) hl).trans (h.free i hi),h.new,aYR h.below hb⟩
theorem Ar.set{p:Nat}{o:Nat->Int}{w W:World}(h:Ar p o w W)(k:Nat)(hk:k<18)(v:Int):Ar p (fun i=>if i=k then v else o i) w (W.setCell ⟨p,k,none⟩ (.int .u8 v)):=by
 refine⟨fun i hi=>?_,fun i hi=>by rw[aPr];exact h.free i hi,h.new,h.below.setCell h.new _⟩;by_cases c:i=k
 . subst c;rw[aEo rfl];exact aUb _ _ _ (h.cell i hi)
 rw[aEg c,aOX _ _ _ _ (by intro e;injection e with e1 e2;exact c e2.symm)];exact h.cell i hi
theorem Ar.other{p q:Nat}{o:Nat->Int}{w W:World}(h:Ar p o w W)(hne:q≠p)(hq:w.heap.size<=q)(k:Nat)(v:Value):Ar p o w (W.setCell ⟨q,k,none⟩ v):=by
 refine⟨fun i hi=>?_,fun i hi=>by rw[aPr];exact h.free i hi,h.new,h.below.setCell hq _⟩;rw[aOX _ _ _ _ (by intro e;injection e with e1 e2;exact hne e1)];exact h.cell i hi
theorem Ar.fresh(o:Nat->Int)(w:World)(t:TypeId):Ar w.heap.size o w (w.alloc (.cells (UH o) t)):=by
 refine⟨fun i hi=>?_,fun i hi=>by simp,aC4 _,ba (aDA _ _) _⟩;unfold UH;obtain rfl|rfl|rfl|rfl|rfl|rfl|rfl|rfl|rfl|rfl|rfl|rfl|rfl|rfl|rfl|rfl|rfl|rfl:i=0\/i=1\/i=2\/i=3\/i=4\/i=5\/i=6\/i=7\/i=8\/i=9\/i=10\/i=11\/i=12\/i=13\/i=14\/i=15\/i=16\/i=17:=by omega
 all_goals simp[go_sem]
theorem byte_of{x:Int}(h0:0<=x)(h1:x<256):((UInt8.ofNat x.toNat).toNat:Int)=x:=by
 rw[aPs];omega
theorem O6(s:ByteArray)(o:Nat->Int)(w:World)(h4:s.size=4)(hd: ∀i,i<4->48<=o i/\o i<=57):
 Calls prog 298 #[.string s,QD o] w fun r w'=>r=.returned (.int .i64 (gI o))/\Below w.heap.size w w':=by
 have hA:=Ar.fresh o w 343;obtain⟨S,hS⟩: ∃S,S=strOfNums [o 0,o 1,o 2,o 3]:=⟨_,rfl⟩;have h5:S.size=4:=by rw[hS,strOfNums_size];rfl
 have hb: ∀i,i<4->fE S i=o i:=by
  intro i hi;have:=hd i hi;unfold fE;rw[hS,strOfNums_data];obtain rfl|rfl|rfl|rfl:i=0\/i=1\/i=2\/i=3:=by omega
  all_goals exact byte_of (by omega) (by omega)
 have HF:=aAC (fun w=>BA S 0 o w h5 (fun i hi=>by rw[hb i hi,aEg (by have:=hd i hi;omega)]) hd);have HS:=aAC hS;clear hb h5 hS;unfold QD;go_enter func298,ntmps298;go_upto_region 1 with(fail);unfold UH at hA;generalize w.alloc (.cells #[.int .u8 (o 0),.int .u8 (o 1),.int .u8 (o 2),.int .u8 (o 3),.int .u8 (o 4),.int .u8 (o 5),.int .u8 (o 6),.int .u8 (o 7),.int .u8 (o 8),.int .u8 (o 9),.int .u8 (o 10),.int .u8 (o 11),.int .u8 (o 12),.int .u8 (o 13),.int .u8 (o 14),.int .u8 (o 15),.int .u8 (o 16),.int .u8 (o 17)] 343)=W0 at hA ⊢;have hcv:=run_convert_bytes_arg (P:=prog) W0 90 5 underlying90 underlying5 w.heap.size 0 4 18 [o 0,o 1,o 2,o 3] rfl (by
  intro i hi;rw[aHG,hA.cell i (by omega)];obtain rfl|rfl|rfl|rfl:i=0\/i=1\/i=2\/i=3:=by omega
  all_goals rfl) 9 underlying9
 rw[<-HS.out]at hcv;have hBl:=hA.below;clear hA hd
 go_wp2_with (go_at_call 295;with_reducible refine(HF.out _).mono ?_;rintro _ w' ⟨rfl,hb⟩)
 go_ret;exact⟨rfl,aYR hBl hb⟩
theorem Ar.congr{p:Nat}{o o':Nat->Int}{w W:World}(h:Ar p o w W)(e: ∀i,i<18->o i=o' i):Ar p o' w W:=
 ⟨fun i hi=>by rw[<-e i hi];exact h.cell i hi,h.free,h.new,h.below⟩
theorem QY {w:World} {a:Addr} {v:Value} (h:w.cell? a=some v):w.setCell a v=w:=by
 have e : (w.setCell a v).heap=w.heap:=by
  unfold World.setCell;apply Array.ext
  . simp
  intro i h1 h2;simp only[Array.getElem_modify];split
  . rename_i hi;subst hi;unfold World.cell? at h;rw[aJT h2]at h;cases hb:w.heap[a.block]with
    |cells c e f=>
     rw[hb]at h;simp only at h;show Obj.cells (if a.spot.isSome=true then c else c.setIfInBounds a.off v) e f=Obj.cells c e f;by_cases hs:a.spot.isSome=true
     . rw[aEo hs]
     rw [aEg hs]at h ⊢
     congr 1
     apply Array.ext
     . simp
     intro j g1 g2;rw[Array.getElem_setIfInBounds];split
     . rename_i hj;subst hj;rw[aJT g2]at h;injection h with h;exact h.symm
     rfl
    |_=>rfl
  rfl
 show({ w with heap:=(w.setCell a v).heap }:World)=w;rw[e]
theorem mO{fn:Func}{p:Tmp}{ty:TypeId}(h:fn.results= #[.cell p ty])(tmps:Array Value){P:Program}{w:World}{a:Addr}{v:Value}
 (hp:tmps.getD p undef=.pointer (some a)) (hl:(loadVar ty a).run P w=.ok v w):(results fn tmps).run P w=.ok v w:=by
 have hp':tmps[p]?.getD undef=.pointer (some a):=by simpa using hp
 simp[results,h,hp',asAddr,hl]
def iU(o:Nat->Int):List Value:=(List.range 18).map fun i=>.int .u8 (o i)
theorem CX(o:Nat->Int):(Value.agg (iU o).toArray)=QD o:=rfl
theorem iH:(prog.info? 343).map (·.size)=some 18:=by kernel_rfl
theorem aD5(o:Nat->Int)(j:Nat)(v:Value)(h:(iU o)[j]? =some v):j<18/\v=.int .u8 (o j):=by
 unfold iU at h;rw[aEC,aLk]at h;obtain⟨a,ha,rfl⟩:=h;obtain⟨hj,rfl⟩:=aED.1 ha;simp at hj ⊢;exact hj
theorem Ar.range{p:Nat}{o:Nat->Int}{w W:World}(h:Ar p o w W):W.rangeAt p 0 (iU o):=by
 intro j v hv;obtain⟨hj,rfl⟩:=aD5 o j v hv;rw[aHG];exact h.cell j hj
theorem Ar.aSt{p:Nat}{o:Nat->Int}{w W:World}(h:Ar p o w W):(loadVar 343 ⟨p,0,none⟩).run prog W=.ok (QD o) W:=
 aRg W p 0 _ (iU o) _ h.range underlying343 rfl iH
theorem zI{p:Nat}{W:World}: ∀(vs:List Value) (k:Nat),W.rangeAt p k vs->W.setCells p k vs=W
 |[],_,_=>rfl
 |v::r,k,h=>by
  unfold World.setCells;rw[QY (show W.cell? ⟨p,k,none⟩=some v from h 0 v rfl)];exact zI r (k+1) (fun j u hj=>by rw[show k+1+j=k+(j+1) by omega];exact h (j+1) u hj)
theorem Ar.there{p:Nat}{o:Nat->Int}{w W:World}(h:Ar p o w W):W.there p 0 (iU o).toArray.size:=fun j hj=>by
 have hj:j<18:=hj;rw[aHG,h.cell j hj];exact⟨rfl,h.free j hj⟩
theorem WX(o:Nat->Int):(iU o).toArray.all (·.oneCell')=true:=aWR (fun v hv=>by
 unfold iU at hv;rw[aLQ]at hv;obtain⟨i,_,rfl⟩:=hv
 rfl)
theorem Ar.self{p:Nat}{o:Nat->Int}{w W:World}(h:Ar p o w W):W.setCells p 0 (iU o).toArray.toList=W:=zI (iU o) 0 h.range
def nd(n:Int)(j:Nat):Int:=if j=0 then n else if j=1 then n / 10 else if j=2 then n / 100 else if j=3 then n / 1000 else n / 10000
def aYN(n:Int)(j i:Nat):Int:=if 4<=i+j/\i<4 then 48+dg n i else 0
theorem aLn(n:Int)(i:Nat):aYN n 4 i=Dn n i:=by
 unfold aYN Dn;by_cases h:i<4
 . rw[aEo ⟨by omega,h⟩,aEo h]
 rw[aEg (by omega),aEg h]
theorem aGK(n:Int)(h0:0<=n)(h1:n<=9999)(j:Nat)(hj:j<4):0<=nd n j/\nd n j<=9999/\nd n (j+1)=nd n j / 10/\dg n (3 - j)=nd n j % 10:=by
 unfold nd dg;obtain rfl|rfl|rfl|rfl:j=0\/j=1\/j=2\/j=3:=by omega
 all_goals simp
 all_goals omega
theorem Ar.zero(w:World)(t:TypeId):Ar w.heap.size (fun _=>0) w (w.alloc (.cells #[.int .u8 0,.int .u8 0,.int .u8 0,.int .u8 0,.int .u8 0,.int .u8 0,.int .u8 0,.int .u8 0,.int .u8 0,.int .u8 0,.int .u8 0,.int .u8 0,.int .u8 0,.int .u8 0,.int .u8 0,.int .u8 0,.int .u8 0,.int .u8 0] t)):=Ar.fresh (fun _=>0) w t
theorem O9(s:ByteArray)(n:Int)(w:World)(h4:s.size=4)(h0:0<=n)(h1:n<=9999):
 Calls prog 297 #[.string s,.int .i64 n] w fun r w'=>r=.returned (QD (Dn n))/\Below w.heap.size w w':=by
 have hA:=Ar.zero w 343;have HN:=aAC (fun j hj=>aGK n h0 h1 j hj);have hSn: ∀j,j<4-> ∀i,i<18->(if i=3 - j then 48+dg n (3 - j)else aYN n j i)=aYN n (j+1) i:=by
  intro j hj i hi;unfold aYN;by_cases c:i=3 - j
  . subst c;rw[aEo rfl,aEo (by omega)]
  rw[aEg c];by_cases d:4<=i+j/\i<4
  . rw[aEo d,aEo (by omega)]
  rw[aEg d,aEg (by omega)]
 have HS:=aAC hSn;clear hSn;obtain⟨o,ho⟩: ∃o,o=Dn n:=⟨_,rfl⟩;rw[<-ho];have HO:=aAC (fun i=>(by rw[ho];exact aLn n i:aYN n 4 i=o i));clear ho;go_enter func297,ntmps297
 go_upto_block 0 with(fail)
 generalize w.alloc (.cells #[.int .u8 0,.int .u8 0,.int .u8 0,.int .u8 0,.int .u8 0,.int .u8 0,.int .u8 0,.int .u8 0,.int .u8 0,.int .u8 0,.int .u8 0,.int .u8 0,.int .u8 0,.int .u8 0,.int .u8 0,.int .u8 0,.int .u8 0,.int .u8 0] 343)=W0 at hA ⊢;replace hA:=aAC (hA.congr (o':=aYN n 0) (fun i hi=>by unfold aYN;rw[aEg (by omega)]));clear h4
 go_wp2
 go_loopw [1,5] (fun t i wx=> ∃k:Nat,k<=4/\i=.int .i64 ((k:Int) - 1)/\t=.int .i64 (nd n (4 - k))/\Ar w.heap.size (aYN n (4 - k)) w wx) (fun _ i _=>((intOf i)+1).toNat)
 case atStart=>exact⟨4,aC4 _,rfl,rfl,hA.out⟩
 case round=>
  obtain⟨k,hk,hi,rfl,hA⟩:=hrel;by_cases hlt:0<k
  . obtain⟨m,rfl⟩: ∃m,k=m+1:=⟨k - 1,by omega⟩;rw[show (((m+1:Nat):Int)) - 1=(m:Int) by omega]at hi;subst hi;have hj:4 - (m+1)<4:=by omega
    obtain⟨d0,d1,d2,d3⟩:=HN.out _ hj;have hs:=HS.out _ hj;rw[show 4 - (m+1)+1=4 - m by omega]at d2 hs;rw[show 3 - (4 - (m+1))=m by omega]at d3 hs;have hc:=hA.cell m (by omega);have hf:=hA.free m (by omega);have hm:m<18:=by omega
    have hm4:(m:Int)<4:=by omega
    generalize nd n (4 - (m+1))=q at *;have hX:=aAC ((hA.set m hm (48+q % 10)).congr (o':=aYN n (4 - m)) (fun i hi=>by rw[<-d3];exact hs i hi));have D2:=aAC d2;have e0:0<=q % 10:=by omega
    have e1:q % 10<=9:=by omega
    clear hA hs d2 d3
    go_wp2
    go_roundw
    case rel=>exact⟨m,by omega,rfl,by rw[D2.out],hX.out⟩
    case measure=>simp[intOf]
  as_aux_lemma=>
   obtain rfl:k=0:=by omega
   subst hi;have hA2:=hA.congr (o':=o) (fun i _=>HO.out i);clear hA;have hR:=hA2.range;have hT:=hA2.there;have hS:=aAC hA2.self;have hlv:=aAC hA2.aSt;have HB:=aAC hA2.below;clear hA2
   go_wp2_with (first
    |(refine aOW rfl 343 (.tmp 4) rfl w.heap.size 0 rfl (iU o) _ hR underlying343 rfl iH ?_)
    |(refine aSG rfl 343 (.tmp 4) (.tmp 21) rfl w.heap.size 0 (iU o).toArray rfl rfl hT iH (WX o) ?_;rw[hS.out]))
   exact aT9 (v:=QD o) (mO results297 _ rfl hlv.out) rfl ⟨rfl,HB.out⟩
theorem Ar.fresh0{w W:World}(hb:Below w.heap.size w W)(t:TypeId):Ar W.heap.size (fun _=>0) w (W.alloc (.cells #[.int .u8 0,.int .u8 0,.int .u8 0,.int .u8 0,.int .u8 0,.int .u8 0,.int .u8 0,.int .u8 0,.int .u8 0,.int .u8 0,.int .u8 0,.int .u8 0,.int .u8 0,.int .u8 0,.int .u8 0,.int .u8 0,.int .u8 0,.int .u8 0] t)):=by
 have h:=Ar.zero W t;exact⟨h.cell,h.free,hb.size,ba hb _⟩
theorem Ar.pJ{p:Nat}{o:Nat->Int}{w W:World}(h:Ar p o w W)(o':Nat->Int):Ar p o' w (W.setCells p 0 (iU o').toArray.toList):=by
 have key: ∀(vs:List Value) (k:Nat) (W:World),(∀i,k<=i->i<k+vs.length->(W.cell? ⟨p,i,none⟩).isSome=true)->(∀j v,vs[j]? =some v->(W.setCells p k vs).cell? ⟨p,k+j,none⟩=some v):=by
  intro vs
  induction vs with
  |nil=>intro k W _ j v hv;simp at hv
  | cons u r ih=>
   intro k W hs j v hv;unfold World.setCells;cases j with
   |zero=>
    simp at hv;subst hv;rw[aUa p r (k+1) _ ⟨p,k+0,none⟩ (fun _ _=>.inl (by show k+0<k+1;omega))];obtain⟨x,hx⟩:=aO1.1 (hs k (aC4 _) (by simp));exact aUb _ _ _ hx
   |succ j=>
    rw[show k+(j+1)=k+1+j by omega];refine ih (k+1) _ (fun i h1 h2=>?_) j v (by simpa using hv);rw[aOX _ _ _ _ (by intro e;injection e with _ e2;omega)];exact hs i (by omega) (by simp;omega)
 have fz: ∀(vs:List Value) (k:Nat) (W:World) (i:Nat),(W.setCells p k vs).frozen? ⟨p,i,none⟩=W.frozen? ⟨p,i,none⟩:=by
  intro vs
  induction vs with
  |nil=>intro k W i;rfl
  |cons u r ih=>intro k W i;unfold World.setCells;rw[ih,aPr]
 have bl: ∀(vs:List Value) (k:Nat) (W:World),Below w.heap.size w W->Below w.heap.size w (W.setCells p k vs):=by
  intro vs
  induction vs with
  |nil=>intro k W hb;exact hb
  |cons u r ih=>intro k W hb;unfold World.setCells;exact ih _ _ (hb.setCell h.new _)
 have hl:(iU o').toArray.toList=iU o':=rfl;rw[hl];refine⟨fun i hi=>?_,fun i hi=>by rw[fz];exact h.free i hi,h.new,bl _ _ _ h.below⟩;have:=key (iU o') 0 W (fun j _ hj=>by
  have hj:j<18:=by have:(iU o').length=18:=rfl;omega
  rw[h.cell j hj];rfl) i (.int .u8 (o' i)) (by
   unfold iU;rw[aEC,aPp hi];rfl)
 rw[aHG]at this;exact this
theorem Ar.others{p q:Nat}{o:Nat->Int}{w W:World}(h:Ar p o w W)(hne:q≠p)(hq:w.heap.size<=q): ∀(vs:List Value) (k:Nat),Ar p o w (W.setCells q k vs):=by
 intro vs
 induction vs generalizing W with
 |nil=>intro k;exact h
 |cons u r ih=>intro k;unfold World.setCells;exact ih (h.other hne hq k u) (k+1)
theorem Ar.alloc{p:Nat}{o:Nat->Int}{w W:World}(h:Ar p o w W)(ob:Obj):Ar p o w (W.alloc ob):=h.later (ba (aDA _ _) _)
def aCU(P:Int->Int->Prop)(w:World)(e:Ending)(w':World):Prop:= ∃v x,P v x/\e=.returned (.tuple #[.int .i64 v,.int .i64 x])/\Below w.heap.size w w'
def aCV(b:Nat->Int)(n:Int)(j:Nat)(o:Nat->Int):Prop:= ∀o':Nat->Int,(∀i,i<j->o' i=o i)->(∀i,j<=i->i<4->o' i=if b i=88 then 48 else b i)->
 (vZ b (gI o')/\n<=gI o'/\ ∀f,vZ b f->n<=f->gI o'<=f)/\(∀i,i<4->48<=o' i/\o' i<=57)
def aCW(b:Nat->Int)(n:Int)(j:Nat)(o:Nat->Int):Prop:= ∀o':Nat->Int,(∀i,i<j->o' i=o i)->(∀i,j<=i->i<4->o' i=if b i=88 then 57 else b i)->
 (vZ b (gI o')/\gI o'<=n/\ ∀f,vZ b f->f<=n->f<=gI o')/\(∀i,i<4->48<=o' i/\o' i<=57)
theorem GY{n:Int}(h0:0<=n)(h1:n<=9999)(i:Nat):0<=dg n i/\dg n i<=9:=by unfold dg;(repeat' split)<;>omega
theorem JA{b:Nat->Int}(hb:MOk b){x y:Int}{i:Nat}(hi:i<4)(hx:48<=x/\x<=57)(h:y=if b i=88 then x else b i):48<=y/\y<=57:=by
 have:=hb i hi;rw[h];split<;>omega
theorem aA2{b:Nat->Int}{n:Int}{k:Nat}(hb:MOk b)(h0:0<=n)(h1:n<=9999)(hk:k<4)(hf: ∀i,i<k->eH b n i)(hx:b k≠88)(hg:48+dg n k<b k):aCV b n k (Dn n):=by
 intro o ho hr;have ho': ∀i,i<k->o i=48+dg n i:=fun i hi=>by rw[ho i hi];unfold Dn;rw[aEo (by omega)]
 refine⟨aJc hb h0 h1 hk hf hx hg ho' hr,fun i hi=>?_⟩;by_cases c:i<k
 . rw[ho' i c];have:=GY h0 h1 i;omega
 exact JA hb hi (by omega) (hr i (by omega) hi)
theorem aA4{b:Nat->Int}{n:Int}{k:Nat}(hb:MOk b)(h0:0<=n)(h1:n<=9999)(hk:k<4)(hf: ∀i,i<k->eH b n i)(hx:b k≠88)(hg:b k<48+dg n k):aCW b n k (Dn n):=by
 intro o ho hr;have ho': ∀i,i<k->o i=48+dg n i:=fun i hi=>by rw[ho i hi];unfold Dn;rw[aEo (by omega)]
 refine⟨aK3 hb h0 h1 hk hf hx hg ho' hr,fun i hi=>?_⟩;by_cases c:i<k
 . rw[ho' i c];have:=GY h0 h1 i;omega
 exact JA hb hi (by omega) (hr i (by omega) hi)
theorem aA3{b:Nat->Int}{n:Int}{k j:Nat}(hb:MOk b)(h0:0<=n)(h1:n<=9999)(hk:k<4)(hf: ∀i,i<k->eH b n i)(hx:b k≠88)(hg:b k<48+dg n k)
 (hj:j<k) (hbx:b j=88) (hd:dg n j≠9) (hn: ∀i,j<i->i<k-> ¬(b i=88/\dg n i≠9)):aCV b n (j+1) (fun i=>if i=j then 48+dg n j+1 else Dn n i):=by
 intro o ho hr;have ho': ∀i,i<j->o i=48+dg n i:=fun i hi=>by rw[ho i (by omega)];dsimp only;rw[aEg (by omega)];unfold Dn;rw[aEo (by omega)]
 have hoj:o j=48+dg n j+1:=by rw[ho j (by omega)];dsimp only;rw[aEo rfl]
 have hr': ∀i,j<i->i<4->o i=if b i=88 then 48 else b i:=fun i h1 h2=>hr i (by omega) h2
 refine⟨aJd hb h0 h1 hk hf hx hg hj hbx hd hn ho' hoj hr',fun i hi=>?_⟩;by_cases c:i<j
 . rw[ho' i c];have:=GY h0 h1 i;omega
 by_cases e:i=j
 . subst e;rw[hoj];have:=GY h0 h1 i;omega
 exact JA hb hi (by omega) (hr i (by omega) hi)
theorem aA5{b:Nat->Int}{n:Int}{k j:Nat}(hb:MOk b)(h0:0<=n)(h1:n<=9999)(hk:k<4)(hf: ∀i,i<k->eH b n i)(hx:b k≠88)(hg:48+dg n k<b k)
 (hj:j<k) (hbx:b j=88) (hd:dg n j≠0) (hn: ∀i,j<i->i<k-> ¬(b i=88/\dg n i≠0)):aCW b n (j+1) (fun i=>if i=j then 48+dg n j - 1 else Dn n i):=by
 intro o ho hr;have ho': ∀i,i<j->o i=48+dg n i:=fun i hi=>by rw[ho i (by omega)];dsimp only;rw[aEg (by omega)];unfold Dn;rw[aEo (by omega)]
 have hoj:o j=48+dg n j - 1:=by rw[ho j (by omega)];dsimp only;rw[aEo rfl]
 have hr': ∀i,j<i->i<4->o i=if b i=88 then 57 else b i:=fun i h1 h2=>hr i (by omega) h2
 refine⟨aK4 hb h0 h1 hk hf hx hg hj hbx hd hn ho' hoj hr',fun i hi=>?_⟩;by_cases c:i<j
 . rw[ho' i c];have:=GY h0 h1 i;omega
 by_cases e:i=j
 . subst e;rw[hoj];have:=GY h0 h1 i;omega
 exact JA hb hi (by omega) (hr i (by omega) hi)
theorem UM (s : ByteArray) (n:Int) (w:World) (h4:s.size=4) (hx:aYP dW s=true) (h0:0<=n) (h1:n<=9999):
 Calls prog 271 #[.string s,.int .i64 n,.bool true] w (aCU (EH (fE s) n) w):=by
 have hb:=EW h4 hx;have HS:Hid (∀w,Calls prog 297 #[.string s,.int .i64 n] w fun r w'=>r=.returned (.agg (iU (Dn n)).toArray)/\Below w.heap.size w w'):=aAC (fun w=>by rw[CX];exact O9 s n w h4 h0 h1);have HV:Hid (∀(o:Nat->Int) (w:World),(∀i,i<4->48<=o i/\o i<=57)->Calls prog 298 #[.string s,.agg (iU o).toArray] w fun r w'=>r=.returned (.int .i64 (gI o))/\Below w.heap.size w w'):=aAC (fun o w hd=>by rw[CX];exact O6 s o w h4 hd);have H4:=aAC h4;have HM:=aAC hb;have HH:=aAC (⟨h0,h1⟩:0<=n/\n<=9999);clear h4 hx hb;go_enter func271,ntmps271;go_upto_region 4 with(fail)
 go_cut [10] (fun s10 wx=> ∃pa,s10=.pointer (some ⟨pa,0,none⟩)/\Ar pa (Dn n) w wx)
 case first=>
  clear HV
  go_wp2_with (first
   |(go_at_call 297;with_reducible refine(HS.out _).mono ?_;rintro _ w1 ⟨rfl,hb1⟩;have z1:=Ar.fresh0 hb1 343)
   |(refine aSG rfl 343 (.tmp 10) (.tmp 19) rfl w1.heap.size 0 (iU (Dn n)).toArray rfl rfl z1.there iH (WX (Dn n)) ?_))
  go_meet;exact⟨_,rfl,z1.pJ _⟩
 case rest =>
  obtain⟨pa,rfl,hA⟩:=hcut;clear HS;go_upto_region 5 with(fail)
  go_cut [11] (fun s11 wx=> ∃pb,s11=.pointer (some ⟨pb,0,none⟩)/\pb≠pa/\Ar pa (Dn n) w wx/\Ar pb (Dn n) w wx)
  case first=>
   clear HV;have hR:=hA.range;have z1:=Ar.fresh0 hA.below 343;have hne:wc.heap.size≠pa:=by have:=aO4 _ _ (hA.cell 0 (by omega));show wc.heap.size≠pa;have h2:pa<wc.heap.size:=this;omega
   have hA2:=aAC ((hA.alloc (.cells #[.int .u8 0,.int .u8 0,.int .u8 0,.int .u8 0,.int .u8 0,.int .u8 0,.int .u8 0,.int .u8 0,.int .u8 0,.int .u8 0,.int .u8 0,.int .u8 0,.int .u8 0,.int .u8 0,.int .u8 0,.int .u8 0,.int .u8 0,.int .u8 0] 343)).others hne hA.below.size (iU (Dn n)).toArray.toList 0);clear hA
   go_wp2_with (first
    |(refine aOW rfl 343 (.tmp 10) rfl pa 0 rfl (iU (Dn n)) _ hR underlying343 rfl iH ?_)
    |(refine aSG rfl 343 (.tmp 11) (.tmp 20) rfl wc.heap.size 0 (iU (Dn n)).toArray rfl rfl z1.there iH (WX (Dn n)) ?_))
   go_meet;exact⟨_,rfl,hne,hA2.out,z1.pJ _⟩
  case rest =>
   obtain⟨pb,rfl,hne,hA,hB⟩:=hcut;have HNE:=aAC hne;clear hne
   go_upto_block 0 with(fail)
   go_wp2
   go_loopw [12] (fun i wx=> ∃k:Nat,k<=4/\i=.int .i64 k/\(∀i,i<k->eH (fE s) n i)/\Ar pa (Dn n) w wx/\Ar pb (Dn n) w wx) (fun i _=>4 - (intOf i).toNat)
   case atStart=>exact⟨0,aLp _,rfl,fun i hi=>by omega,hA,hB⟩
   case round =>
    obtain⟨k,hk,rfl,hf,hA2,hB2⟩:=hrel;clear hA hB;have HF:=aAC hf;clear hf;by_cases hlt:k<4
    . have hks : k < s.size:=by have:=H4.out;omega
      have aWx:(k:Int)<s.size:=by omega
      have hc:=hA2.cell k (by omega);have hd:Dn n k=48+dg n k:=by unfold Dn;rw[aEo hlt]
      have hbk:=dJ s k hks;rw[hd]at hc;have HC:=aAC hbk;have aWz:(k:Int)<18:=by omega
      replace hA2:=aAC hA2;replace hB2:=aAC hB2;clear hd hbk;obtain⟨d,hdd⟩: ∃d,d=dg n k:=⟨_,rfl⟩;rw[<-hdd]at hc;replace hdd:=aAC hdd;by_cases c1:((s[k]'hks).toNat:Int)=88
      . as_aux_lemma=>
         have t1:(((s[k]'hks).toNat:Int)==88)=true:=by rw[c1];rfl
         have HFn: ∀i,i<k+1->eH (fE s) n i:=by
          intro i hi;by_cases e:i=k
          . subst e;exact .inl (by rw[HC.out,c1])
          exact HF.out i (by omega)
         replace HFn:=aAC HFn;clear c1
         go_wp2
         go_quiet (fail)
         go_wp2
         go_roundw
         case rel=>exact⟨k+1,by omega,by go_num,HFn.out,hA2.out.later (below_drewN (aDA _ _) _),hB2.out.later (below_drewN (aDA _ _) _)⟩
         case measure=>simp[intOf];omega
      have t1 : (((s[k]'hks).toNat:Int)==88)=false:=by rw[aEB];exact c1
      by_cases c2:((s[k]'hks).toNat:Int)=48+d
      . as_aux_lemma=>
         have t2:(((s[k]'hks).toNat:Int)==48+d)=true:=by rw[c2];exact aVe _
         have HFn: ∀i,i<k+1->eH (fE s) n i:=by
          intro i hi;by_cases e:i=k
          . subst e;exact .inr (by rw[HC.out,c2,hdd.out])
          exact HF.out i (by omega)
         replace HFn:=aAC HFn;clear c1 c2
         go_wp2
         go_quiet (fail)
         go_wp2
         go_roundw
         case rel=>exact⟨k+1,by omega,by go_num,HFn.out,hA2.out.later (below_drewN (aDA _ _) _),hB2.out.later (below_drewN (aDA _ _) _)⟩
         case measure=>simp[intOf];omega
      as_aux_lemma =>
       have t2:(((s[k]'hks).toNat:Int)==48+d)=false:=by rw[aEB];exact c2
       have t3:((k:Int)==(s.size:Int))=false:=by rw[aEB];omega
       have C1:=aAC c1;clear c1
       go_wp2
       go_quiet (fail);rename_i nq;replace hA2:=aAC (hA2.out.later (below_drewN (aDA wr.heap.size wr) nq));replace hB2:=aAC (hB2.out.later (below_drewN (aDA wr.heap.size wr) nq));have hc2:(wr.drewN nq).cell? ⟨pa,k,none⟩=some (.int .u8 (48+d)):=hc;clear hc;generalize wr.drewN nq=W2 at *
       go_wp2
       obtain⟨BK,TF⟩: ∃b:Bool,b=decide (((s[k]'hks).toNat:Int)<48+d):=⟨_,rfl⟩;go_upto_region 11 with(fail)
       go_cut [55] (fun s55 wx=>s55=.bool BK/\ ∃nq,wx=W2.drewN nq)
       case first=>
        as_aux_lemma=>
         by_cases hh:48+d<((s[k]'hks).toNat:Int)
         . obtain rfl:BK=false:=by rw[TF];exact aBW (by omega)
           clear TF;have hcmp:decide (48+d<((s[k]'hks).toNat:Int))=true:=by first|exact aDx (by omega)|exact aBW (by omega)
           go_quiet (fail)
           go_wp2
           go_meet;exact⟨rfl,_,rfl⟩
         have hh2:((s[k]'hks).toNat:Int)<48+d:=by omega
         obtain rfl:BK=true:=by rw[TF];exact aDx hh2
         have hcmp:decide (48+d<((s[k]'hks).toNat:Int))=false:=by first|exact aDx (by omega)|exact aBW (by omega)
         clear TF hh;go_quiet (fail)
         go_wp2
         go_meet;exact⟨rfl,_,rfl⟩
       case rest =>
        obtain⟨rfl,nq2,rfl⟩:=hcut;replace hA2:=aAC (hA2.out.later (below_drewN (aDA W2.heap.size W2) nq2));replace hB2:=aAC (hB2.out.later (below_drewN (aDA W2.heap.size W2) nq2));clear hc2 t1 t2 t3;generalize W2.drewN nq2=W3 at *
        go_upto_if 55 with(fail)
        go_cut [12] (fun s12 wx=> ∃(j:Nat) (o:Nat->Int),j<=4/\s12=.int .i64 j/\Ar pb o w wx/\aCV (fE s) n j o)
        case first =>
         as_aux_lemma=>
          clear HV;cases BK
          . have hh:48+d<((s[k]'hks).toNat:Int):=by have:=aIH TF.symm;omega
            have HG:=aA2 HM.out HH.out.1 HH.out.2 hlt HF.out (by rw[HC.out];exact C1.out) (by rw[HC.out,<-hdd.out];exact hh);replace HG:=aAC HG;clear TF hh
            go_wp2
            go_meet;exact⟨k,Dn n,by omega,rfl,hB2.out,HG.out⟩
          have hh :((s[k]'hks).toNat:Int)<48+d:=aEF TF.symm;have hg2:=aAC (show fE s k<48+dg n k by rw[HC.out,<-hdd.out];exact hh);clear TF hh hdd
          go_wp2
          go_step3
          go_wp2
          go_step3
          go_wp2
          go_loopw [12] (fun i wx=> ∃m:Nat,m<=k/\i=.int .i64 m/\(∀i,m<=i->i<k-> ¬(fE s i=88/\dg n i≠9))/\Ar pa (Dn n) w wx/\Ar pb (Dn n) w wx) (fun i _=>(intOf i).toNat)
          case atStart=>exact⟨k,aC4 _,rfl,fun i h1 h2=>by omega,hA2.out,hB2.out⟩
          case round=>
           obtain⟨m,hm,hi,hno,hA3,hB3⟩:=hrel;clear hA2 hB2;have HNO:=aAC hno;clear hno;by_cases hm0:0<m
           . obtain⟨q,rfl⟩: ∃q,m=q+1:=⟨m - 1,by omega⟩;rw[show (((q+1:Nat)):Int)=(q:Int)+1 by omega]at hi;subst hi;have hq4:q<4:=by omega
             have hqs:q<s.size:=by omega
             have aWq:(q:Int)<s.size:=by omega
             have aWr:(q:Int)<18:=by omega
             have hca:=hA3.cell q (by omega);have hcb:=hB3.cell q (by omega);have hfb:=hB3.free q (by omega);have hDq:Dn n q=48+dg n q:=by unfold Dn;rw[aEo hq4]
             rw[hDq]at hca hcb;have hbq:=aAC (dJ s q hqs);have hqb:=GY HH.out.1 HH.out.2 q;obtain⟨e,he⟩: ∃e,e=dg n q:=⟨_,rfl⟩;rw[<-he]at hca hcb hqb;replace he:=aAC he;obtain⟨b0,b1⟩:=hqb;clear hDq;have hX:=aAC (hB3.set q (by omega) (48+e+1));by_cases g1:((s[q]'hqs).toNat:Int)=88
             . by_cases g2:e=9
               . as_aux_lemma=>
                  have u1:(((s[q]'hqs).toNat:Int)==88)=true:=by rw[g1];rfl
                  have u2:(48+e !=57)=false:=by rw[g2];rfl
                  have hN: ∀i,q<=i->i<k-> ¬(fE s i=88/\dg n i≠9):=by
                   intro i h1 h2;by_cases c:i=q
                   . subst c;rintro⟨_,h⟩;exact h (by rw[<-he.out];exact g2)
                   exact HNO.out i (by omega) h2
                  replace hN:=aAC hN;replace hA3:=aAC hA3;replace hB3:=aAC hB3;clear g1 g2
                  go_wp2
                  go_roundw
                  case rel=>exact⟨q,by omega,rfl,hN.out,hA3.out,hB3.out⟩
                  case measure=>simp[intOf]
               as_aux_lemma=>
                have u1:(((s[q]'hqs).toNat:Int)==88)=true:=by rw[g1];rfl
                have u2:(48+e !=57)=true:=by rw[aRp];omega
                have hGd:aCV (fE s) n (q+1) (fun i=>if i=q then 48+dg n q+1 else Dn n i):=aA3 HM.out HH.out.1 HH.out.2 hlt HF.out (by rw[HC.out];exact C1.out) hg2.out (by omega) (by rw[hbq.out];exact g1) (by rw[<-he.out];exact g2) (fun i h1 h2=>HNO.out i (by omega) h2);rw[<-he.out]at hGd;replace hGd:=aAC hGd;have ee:e<=8:=by omega
                replace hA3:=aAC hA3;replace hB3:=aAC hB3;clear g1 g2
                go_wp2
                rw[aXN]
                go_wp2
                go_meet;exact⟨q+1,_,by omega,by go_num,hX.out,hGd.out⟩
             as_aux_lemma=>
              have u1:(((s[q]'hqs).toNat:Int)==88)=false:=by rw[aEB];exact g1
              have hN: ∀i,q<=i->i<k-> ¬(fE s i=88/\dg n i≠9):=by
               intro i h1 h2;by_cases c:i=q
               . subst c;rintro⟨h,_⟩;exact g1 (by rw[<-hbq.out];exact h)
               exact HNO.out i (by omega) h2
              replace hN:=aAC hN;replace hA3:=aAC hA3;replace hB3:=aAC hB3;clear g1
              go_wp2
              go_roundw
              case rel=>exact⟨q,by omega,rfl,hN.out,hA3.out,hB3.out⟩
              case measure=>simp[intOf]
           as_aux_lemma=>
            obtain rfl:m=0:=by omega
            subst hi;have hN:EH (fE s) n 0 16:=.inr ⟨rfl,rfl,aJb HH.out.1 HH.out.2 hlt HF.out (by rw[HC.out];exact C1.out) hg2.out (fun i hi=>HNO.out i (by omega) hi)⟩;replace hN:=aAC hN;have HB:=aAC hA3.below;clear hA3 hB3
            go_wp2
            rw[aR5]
            go_wp2
            go_ret2;exact⟨_,_,hN.out,rfl,HB.out⟩
        case rest=>
         as_aux_lemma=>
          obtain⟨j,o,hj,rfl,hO,hG⟩:=hcut;clear hA2 hB2 TF;have HG:=aAC hG;clear hG
          go_wp2
          go_loopw [12] (fun i wx=> ∃(m:Nat) (o2:Nat->Int),m<=4/\j<=m/\i=.int .i64 m/\Ar pb o2 w wx/\(∀i,i<j->o2 i=o i)/\(∀i,j<=i->i<m->o2 i=if fE s i=88 then 48 else fE s i)) (fun i _=>4 - (intOf i).toNat)
          case atStart=>exact⟨j,o,hj,aC4 _,rfl,hO,fun i _=>rfl,fun i h1 h2=>by omega⟩
          case round=>
           obtain⟨m,o2,hm,hjm,rfl,hO2,hlo,hfi⟩:=hrel;clear hO;have HLO:=aAC hlo;have HFI:=aAC hfi;clear hlo hfi;by_cases hm4:m<4
           . as_aux_lemma=>
              have hms:m<s.size:=by have:=H4.out;omega
              have aN7:(m:Int)<s.size:=by omega
              have hm18:(m:Int)<18:=by omega
              have hbm:=dJ s m hms;have hcm:=hO2.cell m (by omega);have hfm:=hO2.free m (by omega);have hX1:=hO2.set m (by omega) ((s[m]'hms).toNat:Int);have hc1:=hX1.cell m (by omega);have hf1:=hX1.free m (by omega);by_cases g1:((s[m]'hms).toNat:Int)=88
              . have u1:(((s[m]'hms).toNat:Int)==88)=true:=by rw[g1];rfl
                have hX2:=(hX1.set m (by omega) 48).congr (o':=fun i=>if i=m then(if fE s m=88 then 48 else fE s m)else o2 i) (fun i _=>by
                 (try dsimp only)
                 by_cases c:i=m
                 . rw[aEo c,aEo c,aEo (by rw[hbm];exact g1)]
                 rw[aEg c,aEg c,aEg c])
                replace hX2:=aAC hX2;replace hO2:=aAC hO2;clear hX1 hc1 hbm g1
                go_wp2
                go_roundw
                case rel=>exact⟨m+1,_,by omega,by omega,by go_num,hX2.out,fun i hi=>by(try dsimp only);rw[aEg (by omega)];exact HLO.out i hi,fun i h1 h2=>by
                 (try dsimp only)
                 by_cases c:i=m
                 . subst c;rw[aEo rfl]
                 rw[aEg c];exact HFI.out i h1 (by omega)⟩
                case measure=>simp[intOf];omega
              have u1:(((s[m]'hms).toNat:Int)==88)=false:=by rw[aEB];exact g1
              have hX2:=hX1.congr (o':=fun i=>if i=m then(if fE s m=88 then 48 else fE s m)else o2 i) (fun i _=>by
               (try dsimp only)
               by_cases c:i=m
               . rw[aEo c,aEo c,aEg (by rw[hbm];exact g1),hbm]
               rw[aEg c,aEg c])
              replace hX2:=aAC hX2;replace hO2:=aAC hO2;clear hX1 hc1 hf1 hbm g1
              go_wp2
              go_roundw
              case rel=>exact⟨m+1,_,by omega,by omega,by go_num,hX2.out,fun i hi=>by(try dsimp only);rw[aEg (by omega)];exact HLO.out i hi,fun i h1 h2=>by
               (try dsimp only)
               by_cases c:i=m
               . subst c;rw[aEo rfl]
               rw[aEg c];exact HFI.out i h1 (by omega)⟩
              case measure=>simp[intOf];omega
           as_aux_lemma=>
            obtain rfl:m=4:=by omega
            obtain⟨hv,hb⟩:=HG.out o2 HLO.out HFI.out;have hV:=aAC (fun w=>HV.out o2 w hb);have hN:EH (fE s) n (gI o2) 0:=.inl ⟨rfl,hv⟩;replace hN:=aAC hN;have aN7:((4:Nat):Int)<s.size->False:=by have:=H4.out;omega
            have hR:=hO2.range;have HB:=aAC hO2.below;have h4b:=H4.out;clear hO2 HG HFI HLO hv hb
            go_wp2_with (first
             |(refine aOW rfl 343 (.tmp 11) rfl pb 0 rfl (iU o2) _ hR underlying343 rfl iH ?_)
             |(go_at_call 298;with_reducible refine(hV.out _).mono ?_;rintro _ w9 ⟨rfl,hb9⟩))
            go_ret2;exact⟨_,_,hN.out,rfl,aYR HB.out hb9⟩
    as_aux_lemma=>
     obtain rfl:k=4:=by omega
     have hN:EH (fE s) n n 0:=.inl ⟨rfl,XO HH.out.1 HH.out.2 HF.out,aU2 _,fun f _ hf=>hf⟩;replace hN:=aAC hN;have HB:=aAC hA2.below;have h4b:=H4.out;clear hA2 hB2
     go_wp2
     go_quiet (fail)
     go_wp2
     go_ret2;exact⟨_,_,hN.out,rfl,below_drewN HB.out _⟩
theorem UN (s : ByteArray) (n:Int) (w:World) (h4:s.size=4) (hx:aYP dW s=true) (h0:0<=n) (h1:n<=9999):
 Calls prog 271 #[.string s,.int .i64 n,.bool false] w (aCU (EF (fE s) n) w):=by
 have hb:=EW h4 hx;have HS:Hid (∀w,Calls prog 297 #[.string s,.int .i64 n] w fun r w'=>r=.returned (.agg (iU (Dn n)).toArray)/\Below w.heap.size w w'):=aAC (fun w=>by rw[CX];exact O9 s n w h4 h0 h1);have HV:Hid (∀(o:Nat->Int) (w:World),(∀i,i<4->48<=o i/\o i<=57)->Calls prog 298 #[.string s,.agg (iU o).toArray] w fun r w'=>r=.returned (.int .i64 (gI o))/\Below w.heap.size w w'):=aAC (fun o w hd=>by rw[CX];exact O6 s o w h4 hd);have H4:=aAC h4;have HM:=aAC hb;have HH:=aAC (⟨h0,h1⟩:0<=n/\n<=9999);clear h4 hx hb;go_enter func271,ntmps271;go_upto_region 4 with(fail)
 go_cut [10] (fun s10 wx=> ∃pa,s10=.pointer (some ⟨pa,0,none⟩)/\Ar pa (Dn n) w wx)
 case first=>
  clear HV
  go_wp2_with (first
   |(go_at_call 297;with_reducible refine(HS.out _).mono ?_;rintro _ w1 ⟨rfl,hb1⟩;have z1:=Ar.fresh0 hb1 343)
   |(refine aSG rfl 343 (.tmp 10) (.tmp 19) rfl w1.heap.size 0 (iU (Dn n)).toArray rfl rfl z1.there iH (WX (Dn n)) ?_))
  go_meet;exact⟨_,rfl,z1.pJ _⟩
 case rest =>
  obtain⟨pa,rfl,hA⟩:=hcut;clear HS;go_upto_region 5 with(fail)
  go_cut [11] (fun s11 wx=> ∃pb,s11=.pointer (some ⟨pb,0,none⟩)/\pb≠pa/\Ar pa (Dn n) w wx/\Ar pb (Dn n) w wx)
  case first=>
   clear HV;have hR:=hA.range;have z1:=Ar.fresh0 hA.below 343;have hne:wc.heap.size≠pa:=by have:=aO4 _ _ (hA.cell 0 (by omega));show wc.heap.size≠pa;have h2:pa<wc.heap.size:=this;omega
   have hA2:=aAC ((hA.alloc (.cells #[.int .u8 0,.int .u8 0,.int .u8 0,.int .u8 0,.int .u8 0,.int .u8 0,.int .u8 0,.int .u8 0,.int .u8 0,.int .u8 0,.int .u8 0,.int .u8 0,.int .u8 0,.int .u8 0,.int .u8 0,.int .u8 0,.int .u8 0,.int .u8 0] 343)).others hne hA.below.size (iU (Dn n)).toArray.toList 0);clear hA
   go_wp2_with (first
    |(refine aOW rfl 343 (.tmp 10) rfl pa 0 rfl (iU (Dn n)) _ hR underlying343 rfl iH ?_)
    |(refine aSG rfl 343 (.tmp 11) (.tmp 20) rfl wc.heap.size 0 (iU (Dn n)).toArray rfl rfl z1.there iH (WX (Dn n)) ?_))
   go_meet;exact⟨_,rfl,hne,hA2.out,z1.pJ _⟩
  case rest =>
   obtain⟨pb,rfl,hne,hA,hB⟩:=hcut;have HNE:=aAC hne;clear hne
   go_upto_block 0 with(fail)
   go_wp2
   go_loopw [12] (fun i wx=> ∃k:Nat,k<=4/\i=.int .i64 k/\(∀i,i<k->eH (fE s) n i)/\Ar pa (Dn n) w wx/\Ar pb (Dn n) w wx) (fun i _=>4 - (intOf i).toNat)
   case atStart=>exact⟨0,aLp _,rfl,fun i hi=>by omega,hA,hB⟩
   case round =>
    obtain⟨k,hk,rfl,hf,hA2,hB2⟩:=hrel;clear hA hB;have HF:=aAC hf;clear hf;by_cases hlt:k<4
    . have hks : k < s.size:=by have:=H4.out;omega
      have aWx:(k:Int)<s.size:=by omega
      have hc:=hA2.cell k (by omega);have hd:Dn n k=48+dg n k:=by unfold Dn;rw[aEo hlt]
      have hbk:=dJ s k hks;rw[hd]at hc;have HC:=aAC hbk;have aWz:(k:Int)<18:=by omega
      replace hA2:=aAC hA2;replace hB2:=aAC hB2;clear hd hbk;obtain⟨d,hdd⟩: ∃d,d=dg n k:=⟨_,rfl⟩;rw[<-hdd]at hc;replace hdd:=aAC hdd;by_cases c1:((s[k]'hks).toNat:Int)=88
      . as_aux_lemma=>
         have t1:(((s[k]'hks).toNat:Int)==88)=true:=by rw[c1];rfl
         have HFn: ∀i,i<k+1->eH (fE s) n i:=by
          intro i hi;by_cases e:i=k
          . subst e;exact .inl (by rw[HC.out,c1])
          exact HF.out i (by omega)
         replace HFn:=aAC HFn;clear c1
         go_wp2
         go_quiet (fail)
         go_wp2
         go_roundw
         case rel=>exact⟨k+1,by omega,by go_num,HFn.out,hA2.out.later (below_drewN (aDA _ _) _),hB2.out.later (below_drewN (aDA _ _) _)⟩
         case measure=>simp[intOf];omega
      have t1 : (((s[k]'hks).toNat:Int)==88)=false:=by rw[aEB];exact c1
      by_cases c2:((s[k]'hks).toNat:Int)=48+d
      . as_aux_lemma=>
         have t2:(((s[k]'hks).toNat:Int)==48+d)=true:=by rw[c2];exact aVe _
         have HFn: ∀i,i<k+1->eH (fE s) n i:=by
          intro i hi;by_cases e:i=k
          . subst e;exact .inr (by rw[HC.out,c2,hdd.out])
          exact HF.out i (by omega)
         replace HFn:=aAC HFn;clear c1 c2
         go_wp2
         go_quiet (fail)
         go_wp2
         go_roundw
         case rel=>exact⟨k+1,by omega,by go_num,HFn.out,hA2.out.later (below_drewN (aDA _ _) _),hB2.out.later (below_drewN (aDA _ _) _)⟩
         case measure=>simp[intOf];omega
      as_aux_lemma =>
       have t2:(((s[k]'hks).toNat:Int)==48+d)=false:=by rw[aEB];exact c2
       have t3:((k:Int)==(s.size:Int))=false:=by rw[aEB];omega
       have C1:=aAC c1;clear c1
       go_wp2
       go_quiet (fail);rename_i nq;replace hA2:=aAC (hA2.out.later (below_drewN (aDA wr.heap.size wr) nq));replace hB2:=aAC (hB2.out.later (below_drewN (aDA wr.heap.size wr) nq));have hc2:(wr.drewN nq).cell? ⟨pa,k,none⟩=some (.int .u8 (48+d)):=hc;clear hc;generalize wr.drewN nq=W2 at *
       go_wp2
       obtain⟨BK,TF⟩: ∃b:Bool,b=decide (48+d<((s[k]'hks).toNat:Int)):=⟨_,rfl⟩;go_upto_region 11 with(fail)
       go_cut [55] (fun s55 wx=>s55=.bool BK/\ ∃nq,wx=W2.drewN nq)
       case first=>
        as_aux_lemma=>
         by_cases hh:((s[k]'hks).toNat:Int)<48+d
         . obtain rfl:BK=false:=by rw[TF];exact aBW (by omega)
           clear TF;have hcmp:decide (48+d<((s[k]'hks).toNat:Int))=false:=by first|exact aDx (by omega)|exact aBW (by omega)
           go_quiet (fail)
           go_wp2
           go_meet;exact⟨rfl,_,rfl⟩
         have hh2:48+d<((s[k]'hks).toNat:Int):=by omega
         obtain rfl:BK=true:=by rw[TF];exact aDx hh2
         have hcmp:decide (48+d<((s[k]'hks).toNat:Int))=true:=by first|exact aDx (by omega)|exact aBW (by omega)
         clear TF hh;go_quiet (fail)
         go_wp2
         go_meet;exact⟨rfl,_,rfl⟩
       case rest =>
        obtain⟨rfl,nq2,rfl⟩:=hcut;replace hA2:=aAC (hA2.out.later (below_drewN (aDA W2.heap.size W2) nq2));replace hB2:=aAC (hB2.out.later (below_drewN (aDA W2.heap.size W2) nq2));clear hc2 t1 t2 t3;generalize W2.drewN nq2=W3 at *
        go_upto_if 55 with(fail)
        go_cut [12] (fun s12 wx=> ∃(j:Nat) (o:Nat->Int),j<=4/\s12=.int .i64 j/\Ar pb o w wx/\aCW (fE s) n j o)
        case first =>
         as_aux_lemma=>
          clear HV;cases BK
          . have hh:((s[k]'hks).toNat:Int)<48+d:=by have:=aIH TF.symm;omega
            have HG:=aA4 HM.out HH.out.1 HH.out.2 hlt HF.out (by rw[HC.out];exact C1.out) (by rw[HC.out,<-hdd.out];exact hh);replace HG:=aAC HG;clear TF hh
            go_wp2
            go_meet;exact⟨k,Dn n,by omega,rfl,hB2.out,HG.out⟩
          have hh :48+d<((s[k]'hks).toNat:Int):=aEF TF.symm;have hg2:=aAC (show 48+dg n k<fE s k by rw[HC.out,<-hdd.out];exact hh);clear TF hh hdd
          go_wp2
          go_step3
          go_wp2
          go_step3
          go_wp2
          go_loopw [12] (fun i wx=> ∃m:Nat,m<=k/\i=.int .i64 m/\(∀i,m<=i->i<k-> ¬(fE s i=88/\dg n i≠0))/\Ar pa (Dn n) w wx/\Ar pb (Dn n) w wx) (fun i _=>(intOf i).toNat)
          case atStart=>exact⟨k,aC4 _,rfl,fun i h1 h2=>by omega,hA2.out,hB2.out⟩
          case round=>
           obtain⟨m,hm,hi,hno,hA3,hB3⟩:=hrel;clear hA2 hB2;have HNO:=aAC hno;clear hno;by_cases hm0:0<m
           . obtain⟨q,rfl⟩: ∃q,m=q+1:=⟨m - 1,by omega⟩;rw[show (((q+1:Nat)):Int)=(q:Int)+1 by omega]at hi;subst hi;have hq4:q<4:=by omega
             have hqs:q<s.size:=by omega
             have aWq:(q:Int)<s.size:=by omega
             have aWr:(q:Int)<18:=by omega
             have hca:=hA3.cell q (by omega);have hcb:=hB3.cell q (by omega);have hfb:=hB3.free q (by omega);have hDq:Dn n q=48+dg n q:=by unfold Dn;rw[aEo hq4]
             rw[hDq]at hca hcb;have hbq:=aAC (dJ s q hqs);have hqb:=GY HH.out.1 HH.out.2 q;obtain⟨e,he⟩: ∃e,e=dg n q:=⟨_,rfl⟩;rw[<-he]at hca hcb hqb;replace he:=aAC he;obtain⟨b0,b1⟩:=hqb;clear hDq;have hX:=aAC (hB3.set q (by omega) (48+e - 1));by_cases g1:((s[q]'hqs).toNat:Int)=88
             . by_cases g2:e=0
               . as_aux_lemma=>
                  have u1:(((s[q]'hqs).toNat:Int)==88)=true:=by rw[g1];rfl
                  have u2:(48+e !=48)=false:=by rw[g2];rfl
                  have hN: ∀i,q<=i->i<k-> ¬(fE s i=88/\dg n i≠0):=by
                   intro i h1 h2;by_cases c:i=q
                   . subst c;rintro⟨_,h⟩;exact h (by rw[<-he.out];exact g2)
                   exact HNO.out i (by omega) h2
                  replace hN:=aAC hN;replace hA3:=aAC hA3;replace hB3:=aAC hB3;clear g1 g2
                  go_wp2
                  go_roundw
                  case rel=>exact⟨q,by omega,rfl,hN.out,hA3.out,hB3.out⟩
                  case measure=>simp[intOf]
               as_aux_lemma=>
                have u1:(((s[q]'hqs).toNat:Int)==88)=true:=by rw[g1];rfl
                have u2:(48+e !=48)=true:=by rw[aRp];omega
                have hGd:aCW (fE s) n (q+1) (fun i=>if i=q then 48+dg n q - 1 else Dn n i):=aA5 HM.out HH.out.1 HH.out.2 hlt HF.out (by rw[HC.out];exact C1.out) hg2.out (by omega) (by rw[hbq.out];exact g1) (by rw[<-he.out];exact g2) (fun i h1 h2=>HNO.out i (by omega) h2);rw[<-he.out]at hGd;replace hGd:=aAC hGd;have ee:1<=e:=by omega
                replace hA3:=aAC hA3;replace hB3:=aAC hB3;clear g1 g2
                go_wp2
                rw[aXN]
                go_wp2
                go_meet;exact⟨q+1,_,by omega,by go_num,hX.out,hGd.out⟩
             as_aux_lemma=>
              have u1:(((s[q]'hqs).toNat:Int)==88)=false:=by rw[aEB];exact g1
              have hN: ∀i,q<=i->i<k-> ¬(fE s i=88/\dg n i≠0):=by
               intro i h1 h2;by_cases c:i=q
               . subst c;rintro⟨h,_⟩;exact g1 (by rw[<-hbq.out];exact h)
               exact HNO.out i (by omega) h2
              replace hN:=aAC hN;replace hA3:=aAC hA3;replace hB3:=aAC hB3;clear g1
              go_wp2
              go_roundw
              case rel=>exact⟨q,by omega,rfl,hN.out,hA3.out,hB3.out⟩
              case measure=>simp[intOf]
           as_aux_lemma=>
            obtain rfl:m=0:=by omega
            subst hi;have hN:EF (fE s) n 0 16:=.inr ⟨rfl,rfl,aK2 HH.out.1 HH.out.2 hlt HF.out (by rw[HC.out];exact C1.out) hg2.out (fun i hi=>HNO.out i (by omega) hi)⟩;replace hN:=aAC hN;have HB:=aAC hA3.below;clear hA3 hB3
            go_wp2
            rw[aR5]
            go_wp2
            go_ret2;exact⟨_,_,hN.out,rfl,HB.out⟩
        case rest=>
         as_aux_lemma=>
          obtain⟨j,o,hj,rfl,hO,hG⟩:=hcut;clear hA2 hB2 TF;have HG:=aAC hG;clear hG
          go_wp2
          go_loopw [12] (fun i wx=> ∃(m:Nat) (o2:Nat->Int),m<=4/\j<=m/\i=.int .i64 m/\Ar pb o2 w wx/\(∀i,i<j->o2 i=o i)/\(∀i,j<=i->i<m->o2 i=if fE s i=88 then 57 else fE s i)) (fun i _=>4 - (intOf i).toNat)
          case atStart=>exact⟨j,o,hj,aC4 _,rfl,hO,fun i _=>rfl,fun i h1 h2=>by omega⟩
          case round=>
           obtain⟨m,o2,hm,hjm,rfl,hO2,hlo,hfi⟩:=hrel;clear hO;have HLO:=aAC hlo;have HFI:=aAC hfi;clear hlo hfi;by_cases hm4:m<4
           . as_aux_lemma=>
              have hms:m<s.size:=by have:=H4.out;omega
              have aN7:(m:Int)<s.size:=by omega
              have hm18:(m:Int)<18:=by omega
              have hbm:=dJ s m hms;have hcm:=hO2.cell m (by omega);have hfm:=hO2.free m (by omega);have hX1:=hO2.set m (by omega) ((s[m]'hms).toNat:Int);have hc1:=hX1.cell m (by omega);have hf1:=hX1.free m (by omega);by_cases g1:((s[m]'hms).toNat:Int)=88
              . have u1:(((s[m]'hms).toNat:Int)==88)=true:=by rw[g1];rfl
                have hX2:=(hX1.set m (by omega) 57).congr (o':=fun i=>if i=m then(if fE s m=88 then 57 else fE s m)else o2 i) (fun i _=>by
                 (try dsimp only)
                 by_cases c:i=m
                 . rw[aEo c,aEo c,aEo (by rw[hbm];exact g1)]
                 rw[aEg c,aEg c,aEg c])
                replace hX2:=aAC hX2;replace hO2:=aAC hO2;clear hX1 hc1 hbm g1
                go_wp2
                go_roundw
                case rel=>exact⟨m+1,_,by omega,by omega,by go_num,hX2.out,fun i hi=>by(try dsimp only);rw[aEg (by omega)];exact HLO.out i hi,fun i h1 h2=>by
                 (try dsimp only)
                 by_cases c:i=m
                 . subst c;rw[aEo rfl]
                 rw[aEg c];exact HFI.out i h1 (by omega)⟩
                case measure=>simp[intOf];omega
              have u1:(((s[m]'hms).toNat:Int)==88)=false:=by rw[aEB];exact g1
              have hX2:=hX1.congr (o':=fun i=>if i=m then(if fE s m=88 then 57 else fE s m)else o2 i) (fun i _=>by
               (try dsimp only)
               by_cases c:i=m
               . rw[aEo c,aEo c,aEg (by rw[hbm];exact g1),hbm]
               rw[aEg c,aEg c])
              replace hX2:=aAC hX2;replace hO2:=aAC hO2;clear hX1 hc1 hf1 hbm g1
              go_wp2
              go_roundw
              case rel=>exact⟨m+1,_,by omega,by omega,by go_num,hX2.out,fun i hi=>by(try dsimp only);rw[aEg (by omega)];exact HLO.out i hi,fun i h1 h2=>by
               (try dsimp only)
               by_cases c:i=m
               . subst c;rw[aEo rfl]
               rw[aEg c];exact HFI.out i h1 (by omega)⟩
              case measure=>simp[intOf];omega
           as_aux_lemma=>
            obtain rfl:m=4:=by omega
            obtain⟨hv,hb⟩:=HG.out o2 HLO.out HFI.out;have hV:=aAC (fun w=>HV.out o2 w hb);have hN:EF (fE s) n (gI o2) 0:=.inl ⟨rfl,hv⟩;replace hN:=aAC hN;have aN7:((4:Nat):Int)<s.size->False:=by have:=H4.out;omega
            have hR:=hO2.range;have HB:=aAC hO2.below;have h4b:=H4.out;clear hO2 HG HFI HLO hv hb
            go_wp2_with (first
             |(refine aOW rfl 343 (.tmp 11) rfl pb 0 rfl (iU o2) _ hR underlying343 rfl iH ?_)
             |(go_at_call 298;with_reducible refine(hV.out _).mono ?_;rintro _ w9 ⟨rfl,hb9⟩))
            go_ret2;exact⟨_,_,hN.out,rfl,aYR HB.out hb9⟩
    as_aux_lemma=>
     obtain rfl:k=4:=by omega
     have hN:EF (fE s) n n 0:=.inl ⟨rfl,XO HH.out.1 HH.out.2 HF.out,aU2 _,fun f _ hf=>hf⟩;replace hN:=aAC hN;have HB:=aAC hA2.below;have h4b:=H4.out;clear hA2 hB2
     go_wp2
     go_quiet (fail)
     go_wp2
     go_ret2;exact⟨_,_,hN.out,rfl,below_drewN HB.out _⟩
def fl(b:Nat->Int)(x:Int)(i:Nat):Int:=if b i=88 then x else b i
theorem aMj{b:Nat->Int}(hb:MOk b){x:Int}(h0:48<=x)(h1:x<=57)(i:Nat)(hi:i<4):48<=fl b x i/\fl b x i<=57:=by
 have:=hb i hi;unfold fl;split<;>omega
theorem aD8(s:ByteArray)(w:World)(h4:s.size=4)(hx:aYP dW s=true):
 Calls prog 269 #[.string s] w fun r w'=>r=.returned (.tuple #[.int .i64 (gI (fl (fE s) 48)),.int .i64 0])/\Below w.heap.size w w':=by
 have hb:=EW h4 hx;have HC:=aAC (fun w=>uS s w h4 hx);have HF:=aAC (fun w=>BA s 48 (fl (fE s) 48) w h4 (fun i _=>rfl) (fun i hi=>aMj hb (by omega) (by omega) i hi));clear h4 hx hb;generalize gI (fl (fE s) 48)=v at *;go_enter func269,ntmps269
 go_wp2_with fail
 refine(HC.out _).mono ?_;rintro _ w1 ⟨rfl,hb1⟩
 go_wp2_with fail
 refine(HF.out _).mono ?_;rintro _ w2 ⟨rfl,hb2⟩
 go_wp2_with fail
 go_ret2;exact⟨rfl,aYR hb1 hb2⟩
theorem TI(s:ByteArray)(w:World)(h4:s.size=4)(hx:aYP dW s=true):
 Calls prog 272 #[.string s] w fun r w'=>r=.returned (.tuple #[.int .i64 (gI (fl (fE s) 57)),.int .i64 0])/\Below w.heap.size w w':=by
 have hb:=EW h4 hx;have HC:=aAC (fun w=>uS s w h4 hx);have HF:=aAC (fun w=>BA s 57 (fl (fE s) 57) w h4 (fun i _=>rfl) (fun i hi=>aMj hb (by omega) (by omega) i hi));clear h4 hx hb;generalize gI (fl (fE s) 57)=v at *;go_enter func272,ntmps272
 go_wp2_with fail
 refine(HC.out _).mono ?_;rintro _ w1 ⟨rfl,hb1⟩
 go_wp2_with fail
 refine(HF.out _).mono ?_;rintro _ w2 ⟨rfl,hb2⟩
 go_wp2_with fail
 go_ret2;exact⟨rfl,aYR hb1 hb2⟩
theorem aDV(s:ByteArray)(n:Int)(w:World)(h4:s.size=4)(hx:aYP dW s=true):
 Calls prog 231 #[.string s,.int .i64 n] w (aCU (EH (fE s) n) w):=by
 have hb:=EW h4 hx;have HC:=aAC (fun w=>uS s w h4 hx);by_cases c:n<0
 . have HL:=aAC (fun w=>aD8 s w h4 hx);have hN:EH (fE s) n (gI (fl (fE s) 48)) 0:=by
    obtain⟨g1,g2⟩:=aD7 hb (o:=fl (fE s) 48) (fun i _=>rfl);exact .inl ⟨rfl,g1,by have:=g1.1;omega,fun f hf _=>g2 f hf⟩
   replace hN:=aAC hN;clear h4 hx hb;generalize gI (fl (fE s) 48)=v at *;go_enter func231,ntmps231
   go_wp2_with fail
   refine(HC.out _).mono ?_;rintro _ w1 ⟨rfl,hb1⟩
   go_wp2_with fail
   refine(HL.out _).mono ?_;rintro _ w2 ⟨rfl,hb2⟩
   go_wp2_with fail
   go_ret2;exact⟨_,_,hN.out,rfl,aYR hb1 hb2⟩
 by_cases c2:n<10000
 . have HW:Hid (∀w,Calls prog 270 #[.string s,.int .i64 n] w fun r w'=>r=.returned (.bool true)/\w=w'):=aAC (fun w=>by
    have:=uI s n w h4;rw[aDx (show 0<=n by omega),aDx c2]at this;exact this)
   have HB:=aAC (fun w=>UM s n w h4 hx (by omega) (by omega));clear h4 hx hb;go_enter func231,ntmps231
   go_wp2_with fail
   refine(HC.out _).mono ?_;rintro _ w1 ⟨rfl,hb1⟩
   go_wp2_with fail
   refine(HW.out _).mono ?_;rintro _ w2 ⟨rfl,rfl⟩
   go_wp2_with fail
   refine(HB.out _).mono ?_;rintro _ w2 ⟨v,x,hN,rfl,hb2⟩;replace hN:=aAC hN
   go_wp2_with fail
   go_ret2;exact⟨_,_,hN.out,rfl,aYR hb1 hb2⟩
 have HW:Hid (∀w,Calls prog 270 #[.string s,.int .i64 n] w fun r w'=>r=.returned (.bool false)/\w=w'):=aAC (fun w=>by
  have:=uI s n w h4;rw[aBW c2,aPe]at this;exact this)
 have hN:EH (fE s) n 0 16:=.inr ⟨rfl,rfl,fun f hf=>by have:=hf.2.1;omega⟩;replace hN:=aAC hN;clear h4 hx hb;go_enter func231,ntmps231
 go_wp2_with fail
 refine(HC.out _).mono ?_;rintro _ w1 ⟨rfl,hb1⟩
 go_wp2_with fail
 refine(HW.out _).mono ?_;rintro _ w2 ⟨rfl,rfl⟩
 go_wp2_with fail
 go_ret2;exact⟨_,_,hN.out,rfl,hb1⟩
theorem aDv(s:ByteArray)(n:Int)(w:World)(h4:s.size=4)(hx:aYP dW s=true):
 Calls prog 232 #[.string s,.int .i64 n] w (aCU (EF (fE s) n) w):=by
 have hb:=EW h4 hx;have HC:=aAC (fun w=>uS s w h4 hx);by_cases c:n<0
 . have hN:EF (fE s) n 0 16:=.inr ⟨rfl,rfl,fun f hf=>by have:=hf.1;omega⟩;replace hN:=aAC hN;clear h4 hx hb;go_enter func232,ntmps232
   go_wp2_with fail
   refine(HC.out _).mono ?_;rintro _ w1 ⟨rfl,hb1⟩
   go_wp2_with fail
   go_ret2;exact⟨_,_,hN.out,rfl,hb1⟩
 by_cases c2:n<10000
 . have HW:Hid (∀w,Calls prog 270 #[.string s,.int .i64 n] w fun r w'=>r=.returned (.bool true)/\w=w'):=aAC (fun w=>by
    have:=uI s n w h4;rw[aDx (show 0<=n by omega),aDx c2]at this;exact this)
   have HB:=aAC (fun w=>UN s n w h4 hx (by omega) (by omega));clear h4 hx hb;go_enter func232,ntmps232
   go_wp2_with fail
   refine(HC.out _).mono ?_;rintro _ w1 ⟨rfl,hb1⟩
   go_wp2_with fail
   refine(HW.out _).mono ?_;rintro _ w2 ⟨rfl,rfl⟩
   go_wp2_with fail
   refine(HB.out _).mono ?_;rintro _ w2 ⟨v,x,hN,rfl,hb2⟩;replace hN:=aAC hN
   go_wp2_with fail
   go_ret2;exact⟨_,_,hN.out,rfl,aYR hb1 hb2⟩
 have HW:Hid (∀w,Calls prog 270 #[.string s,.int .i64 n] w fun r w'=>r=.returned (.bool false)/\w=w'):=aAC (fun w=>by
  have:=uI s n w h4;rw[aBW c2,aPe]at this;exact this)
 have HL:=aAC (fun w=>TI s w h4 hx);have hN:EF (fE s) n (gI (fl (fE s) 57)) 0:=by
  obtain⟨g1,g2⟩:=TG hb (o:=fl (fE s) 57) (fun i _=>rfl);exact .inl ⟨rfl,g1,by have:=g1.2.1;omega,fun f hf _=>g2 f hf⟩
 replace hN:=aAC hN;clear h4 hx hb;generalize gI (fl (fE s) 57)=v at *;go_enter func232,ntmps232
 go_wp2_with fail
 refine(HC.out _).mono ?_;rintro _ w1 ⟨rfl,hb1⟩
 go_wp2_with fail
 refine(HW.out _).mono ?_;rintro _ w2 ⟨rfl,rfl⟩
 go_wp2_with fail
 refine(HL.out _).mono ?_;rintro _ w2 ⟨rfl,hb2⟩
 go_wp2_with fail
 go_ret2;exact⟨_,_,hN.out,rfl,aYR hb1 hb2⟩
def UpR(b:Nat->Int)(n least v:Int)(ok:Bool):Prop:=0<=v/\v<=9999/\((ok=true/\vZ b v/\n<=v/\least<=v/\ ∀f,vZ b f->n<=f->least<=f->v<=f)\/(ok=false/\ ∀f,vZ b f->least<=f->f<n))
def DnR(b:Nat->Int)(n least v:Int)(ok:Bool):Prop:=0<=v/\v<=9999/\((ok=true/\vZ b v/\v<=n/\least<=v/\ ∀f,vZ b f->f<=n->f<=v)\/(ok=false/\ ∀f,vZ b f->f<=n->f<least))
def aIy(P:Int->Bool->Prop)(w:World)(e:Ending)(w':World):Prop:= ∃v x,P v x/\e=.returned (.tuple #[.int .i64 v,.bool x])/\Below w.heap.size w w'
theorem SC(s:ByteArray)(n:Int)(w:World)(h4:s.size=4)(hx:aYP dW s=true)(n0: -9223372036854775808<=n)(n1:n<9223372036854775808):
 Calls prog 179 #[.string s,.int .i64 n,.bool true,.int .i64 0] w (aIy (UpR (fE s) n 0) w):=by
 have HN:=aAC (fun w=>aDV s (max n 0) w h4 hx);have HU: ∀v x,EH (fE s) (max n 0) v x->UpR (fE s) n 0 v (x==0):=by
  intro v x h;obtain⟨b0,b1,_⟩:=aGJ h;refine⟨b0,b1,?_⟩;rcases h with⟨rfl,h1,h2,h3⟩|⟨rfl,_,h3⟩
  . exact .inl ⟨rfl,h1,by omega,by omega,fun f hf g1 g2=>h3 f hf (by omega)⟩
  exact .inr ⟨rfl,fun f hf hl=>by have:=h3 f hf;have:=hf.1;omega⟩
 replace HU:=aAC HU;go_enter func179,ntmps179
 go_wp2_with fail
 refine(HN.out _).mono ?_;rintro _ w1 ⟨v,x,hN,rfl,hb1⟩;have hR:=aAC (HU.out _ _ hN);clear hN
 go_wp2_with fail
 go_ret2;exact⟨_,_,hR.out,rfl,hb1⟩
theorem SE(s:ByteArray)(n:Int)(w:World)(h4:s.size=4)(hx:aYP dW s=true):
 Calls prog 179 #[.string s,.int .i64 n,.bool false,.int .i64 1] w (aIy (DnR (fE s) n 1) w):=by
 have HN:=aAC (fun w=>aDv s n w h4 hx);have HU: ∀v x,EF (fE s) n v x->DnR (fE s) n 1 v (x==0&&decide (1<=v)):=by
  intro v x h;obtain⟨b0,b1,_⟩:=WJ h;refine⟨b0,b1,?_⟩;rcases h with⟨rfl,h1,h2,h3⟩|⟨rfl,_,h3⟩
  . by_cases c:1<=v
    . exact .inl ⟨by rw[aDx c];rfl,h1,h2,c,h3⟩
    exact .inr ⟨by rw[aBW c];rfl,fun f hf hl=>by have:=h3 f hf hl;omega⟩
  exact .inr ⟨rfl,fun f hf hl=>by have:=h3 f hf;omega⟩
 replace HU:=aAC HU;go_enter func179,ntmps179
 go_wp2_with fail
 refine(HN.out _).mono ?_;rintro _ w1 ⟨v,x,hN,rfl,hb1⟩;have hR:=HU.out _ _ hN;have hx2:=(WJ hN).2.2;clear hN;rcases hx2 with rfl|rfl
 . have hR2:=aAC (show DnR (fE s) n 1 v (decide (1<=v)) by rw[show ((0:Int)==0)=true from rfl,aO8]at hR;exact hR);clear hR
   go_wp2_with fail
   go_ret2;exact⟨_,_,hR2.out,rfl,hb1⟩
 have hR2:=aAC (show DnR (fE s) n 1 v false by rw[show ((16:Int)==0)=false from rfl,aPd]at hR;exact hR);clear hR
 go_wp2_with fail
 go_ret2;exact⟨_,_,hR2.out,rfl,hb1⟩
end

section
open Go.RowKit
theorem PK{w W:World}{a lo b hi:Value}{t:TypeId}(h:Below (w.alloc (.cells #[a,lo,b,hi] t)).heap.size (w.alloc (.cells #[a,lo,b,hi] t)) W):
 W.cell? ⟨w.heap.size,0,none⟩=some a/\W.cell? ⟨w.heap.size,1,none⟩=some lo/\W.cell? ⟨w.heap.size,2,none⟩=some b/\W.cell? ⟨w.heap.size,3,none⟩=some hi/\
 W.frozen? ⟨w.heap.size,0,none⟩=false/\W.frozen? ⟨w.heap.size,1,none⟩=false/\W.frozen? ⟨w.heap.size,2,none⟩=false/\W.frozen? ⟨w.heap.size,3,none⟩=false:=by
 refine⟨?_,?_,?_,?_,?_,?_,?_,?_⟩
 . rw[h.cell (by simp)];simp[go_sem]
 . rw[h.cell (by simp)];simp[go_sem]
 . rw[h.cell (by simp)];simp[go_sem]
 . rw[h.cell (by simp)];simp[go_sem]
 . rw[h.frozen (by simp)];simp[go_sem]
 . rw[h.frozen (by simp)];simp[go_sem]
 . rw[h.frozen (by simp)];simp[go_sem]
 rw[h.frozen (by simp)];simp[go_sem]
end
end
end Go.Proofs.YtebgcnnhokclaaaGreatDoor
